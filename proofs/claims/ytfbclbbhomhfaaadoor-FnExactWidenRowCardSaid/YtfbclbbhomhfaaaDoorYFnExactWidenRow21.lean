/- Contracts of functions, and what is told of them. -/
import Derived.Test.YtfbclbbhomhfaaaDoorYFnExactWidenRow3
import Derived.Test.YtfbclbbhomhfaaaDoorYFnExactWidenRow8
import Derived.Test.YtfbclbbhomhfaaaDoorYFnExactWidenRow9
import Derived.Test.YtfbclbbhomhfaaaDoorYFnExactWidenRow10
import Derived.Test.YtfbclbbhomhfaaaDoorYFnExactWidenRow11
import Derived.Test.YtfbclbbhomhfaaaDoorYFnExactWidenRow12
import Derived.Test.YtfbclbbhomhfaaaDoorYFnExactWidenRow13
import Derived.Test.YtfbclbbhomhfaaaDoorYFnExactWidenRow18
import Derived.Test.YtfbclbbhomhfaaaDoorYFnExactWidenRow19
import Derived.Test.YtfbclbbhomhfaaaDoorYFnExactWidenRow20
namespace Go.Proofs.YtfbclbbhomhfaaaDoor.X
open Go.RowKit Go.Proofs.YtfbclbbhomhfaaaDoorW.PrintWords Go.Proofs.YtfbclbbhomhfaaaDoorW.PrintLast Go.Proofs.YtfbclbbhomhfaaaDoorW.PrintMore
attribute [local go_sem] max2_int min2_int max_two min_two max_three min_three max_four min_four   -- for this text's walks alone
set_option linter.unusedVariables false
set_option linter.unusedSimpArgs false

mutual
def laws_FnExactWidenRow.j0 : Nat → List (S28) → List (S41) → Int → List (S41) → List (S41) → Int → Bool → ByteArray → List (S64) → Int → List (S68) → Int → Int → ByteArray → ByteArray → List (S72) → Int → List (S74) → Option (Bool)
  | 0, _, _, _, _, _, _, _, _, _, _, _, _, _, _, _, _, _, _ => none
  | k + 1, x1, x8, x9, x11, x12, x13, x64, x102000, x102001, x102002, x102003, x103000, x103001, x103002, x133000, x133001, x133002, x133003 => if x64 = true then (none) else ((laws_toTable.f k x102000 x102001 x102002 x102003).bind fun bt144 => ((laws_eqTable.f k x133000 x133001 x133002 x133003 bt144.1 bt144.2.1 bt144.2.2.1 bt144.2.2.2).bind fun t152 => (if t152 = true then ((laws_toValueS.f k x1).bind fun t153 => ((laws_eqValueS.f k x11 t153).bind fun t156 => (if t156 = true then ((laws_markTable.f k x133000 x133001 x133002 x133003 1).bind fun t157 => ((laws_markValueS.f k x11 t157).bind fun bt158 => (if bt158.1 < 0 then (laws_FnExactWidenRow.j1 k x1 x8 x9 x12 true x102000 x102001 x102002 x102003 x103000 x103001 x103002) else ((laws_eqValueS.f k x12 x8).bind fun t160 => (if t160 = true then (laws_FnExactWidenRow.j1 k x1 x8 x9 x12 (x13 != x9) x102000 x102001 x102002 x102003 x103000 x103001 x103002) else (laws_FnExactWidenRow.j1 k x1 x8 x9 x12 true x102000 x102001 x102002 x102003 x103000 x103001 x103002)))))) else (none)))) else (none))))
def laws_FnExactWidenRow.j1 : Nat → List (S28) → List (S41) → Int → List (S41) → Bool → ByteArray → List (S64) → Int → List (S68) → Int → Int → ByteArray → Option (Bool)
  | 0, _, _, _, _, _, _, _, _, _, _, _, _ => none
  | k + 1, x1, x8, x9, x12, x93, x102000, x102001, x102002, x102003, x103000, x103001, x103002 => if x93 = true then (none) else ((laws_markValueS.f k x12 1).bind fun bt161 => ((laws_heldValueS.f k bt161.2 1).bind fun t163 => (if t163 < 0 then (none) else (if t163 = bt161.1 then ((laws_toTable.f k x102000 x102001 x102002 x102003).bind fun bt164 => ((laws_toValueS.f k x1).bind fun t172 => ((laws_toValue.f x103000 x103001 x103002).bind fun bt175 => ((impl_WidenRow.f k bt164.1 bt164.2.1 bt164.2.2.1 bt164.2.2.2 t172 bt175.1 bt175.2.1 bt175.2.2).bind fun bt178 => ((laws_eqValueS.f k bt178.1 x8).bind fun t182 => (if t182 = true then (laws_FnExactWidenRow.j2 k bt161.2 bt161.1 (bt178.2 != x9)) else (laws_FnExactWidenRow.j2 k bt161.2 bt161.1 true))))))) else (none)))))
def laws_FnExactWidenRow.j2 : Nat → List (S41) → Int → Bool → Option (Bool)
  | 0, _, _, _ => none
  | k + 1, x12, x15, x123 => if x123 = true then (none) else ((laws_heldValueS.f k x12 1).bind fun t183 => (if t183 < 0 then (none) else (if t183 = x15 then (some true) else (none))))
end
def laws_FnExactWidenRow.f (k : Nat) (a0_0 : ByteArray) (l0_1 : List (S64)) (a0_2 : Int) (l0_3 : List (S68)) (l1 : List (S28)) (a2_0 : Int) (a2_1 : Int) (a2_2 : ByteArray) : Option (Bool) := (laws_szTable.f k a0_0 l0_1 a0_2 l0_3 1048576).bind fun t103 => (if t103 < 0 then (some true) else ((laws_szValueS.f k l1 t103).bind fun t104 => (if t104 < 0 then (some true) else ((laws_szValue.f a2_0 a2_1 a2_2 t104).bind fun t105 => (if t105 < 0 then (some true) else ((laws_toTable.f k a0_0 l0_1 a0_2 l0_3).bind fun bt106 => ((laws_toValueS.f k l1).bind fun t114 => ((laws_toValue.f a2_0 a2_1 a2_2).bind fun bt117 => ((spec_WidenRow.f k bt106.1 bt106.2.1 bt106.2.2.1 bt106.2.2.2 t114 bt117.1 bt117.2.1 bt117.2.2).bind fun bt120 => ((laws_toTable.f k a0_0 l0_1 a0_2 l0_3).bind fun bt124 => ((laws_toValueS.f k l1).bind fun t133 => ((laws_toValue.f a2_0 a2_1 a2_2).bind fun bt136 => ((impl_WidenRow.f k bt124.1 bt124.2.1 bt124.2.2.1 bt124.2.2.2 t133 bt136.1 bt136.2.1 bt136.2.2).bind fun bt139 => ((laws_eqValueS.f k bt139.1 bt120.1).bind fun t143 => (if t143 = true then (laws_FnExactWidenRow.j0 k l1 bt120.1 bt120.2 t133 bt139.1 bt139.2 (bt139.2 != bt120.2) a0_0 l0_1 a0_2 l0_3 a2_0 a2_1 a2_2 bt124.1 bt124.2.1 bt124.2.2.1 bt124.2.2.2) else (laws_FnExactWidenRow.j0 k l1 bt120.1 bt120.2 t133 bt139.1 bt139.2 true a0_0 l0_1 a0_2 l0_3 a2_0 a2_1 a2_2 bt124.1 bt124.2.1 bt124.2.2.1 bt124.2.2.2))))))))))))))))
theorem laws_FnExactWidenRow.mono_l : ∀ k, (∀ y0 y1 y2 y3 y4 y5 y6 y7 y8 y9 y10 y11 y12 y13 y14 y15 y16 y17, LeO (laws_FnExactWidenRow.j0 k y0 y1 y2 y3 y4 y5 y6 y7 y8 y9 y10 y11 y12 y13 y14 y15 y16 y17) (laws_FnExactWidenRow.j0 (k + 1) y0 y1 y2 y3 y4 y5 y6 y7 y8 y9 y10 y11 y12 y13 y14 y15 y16 y17)) ∧ (∀ y0 y1 y2 y3 y4 y5 y6 y7 y8 y9 y10 y11, LeO (laws_FnExactWidenRow.j1 k y0 y1 y2 y3 y4 y5 y6 y7 y8 y9 y10 y11) (laws_FnExactWidenRow.j1 (k + 1) y0 y1 y2 y3 y4 y5 y6 y7 y8 y9 y10 y11)) ∧ (∀ y0 y1 y2, LeO (laws_FnExactWidenRow.j2 k y0 y1 y2) (laws_FnExactWidenRow.j2 (k + 1) y0 y1 y2))
  | 0 => ⟨fun _ _ _ _ _ _ _ _ _ _ _ _ _ _ _ _ _ _ r h => by simp [laws_FnExactWidenRow.j0] at h, fun _ _ _ _ _ _ _ _ _ _ _ _ r h => by simp [laws_FnExactWidenRow.j1] at h, fun _ _ _ r h => by simp [laws_FnExactWidenRow.j2] at h⟩
  | k + 1 => by
    obtain ⟨ih0, ih1, ih2⟩ := laws_FnExactWidenRow.mono_l k
    refine ⟨?_, ?_, ?_⟩
    rotate_left
    · intro y0 y1 y2 y3 y4 y5 y6 y7 y8 y9 y10 y11
      unfold laws_FnExactWidenRow.j1
      repeat' first
      | (with_reducible exact ih0 _ _ _ _ _ _ _ _ _ _ _ _ _ _ _ _ _ _)
      | (with_reducible exact ih1 _ _ _ _ _ _ _ _ _ _ _ _)
      | (with_reducible exact ih2 _ _ _)
      | (with_reducible exact impl_WidenRow.mono _ _ _ _ _ _ _ _ _)
      | (with_reducible exact laws_eqTable.mono _ _ _ _ _ _ _ _ _)
      | (with_reducible exact laws_eqValueS.mono _ _ _)
      | (with_reducible exact laws_heldValueS.mono _ _ _)
      | (with_reducible exact laws_markTable.mono _ _ _ _ _ _)
      | (with_reducible exact laws_markValueS.mono _ _ _)
      | (with_reducible exact laws_szTable.mono _ _ _ _ _ _)
      | (with_reducible exact laws_szValueS.mono _ _ _)
      | (with_reducible exact laws_toTable.mono _ _ _ _ _)
      | (with_reducible exact laws_toValueS.mono _ _)
      | (with_reducible exact spec_WidenRow.mono _ _ _ _ _ _ _ _ _)
      | (with_reducible exact LeO.refl _)
      | (with_reducible exact LeO.none _)
      | (with_reducible refine LeO.ite ?_ ?_)
      | (with_reducible refine LeO.bind ?_ (fun _ => ?_))
      | exact ih0 _ _ _ _ _ _ _ _ _ _ _ _ _ _ _ _ _ _
      | exact ih1 _ _ _ _ _ _ _ _ _ _ _ _
      | exact ih2 _ _ _
      | exact impl_WidenRow.mono _ _ _ _ _ _ _ _ _
      | exact laws_eqTable.mono _ _ _ _ _ _ _ _ _
      | exact laws_eqValueS.mono _ _ _
      | exact laws_heldValueS.mono _ _ _
      | exact laws_markTable.mono _ _ _ _ _ _
      | exact laws_markValueS.mono _ _ _
      | exact laws_szTable.mono _ _ _ _ _ _
      | exact laws_szValueS.mono _ _ _
      | exact laws_toTable.mono _ _ _ _ _
      | exact laws_toValueS.mono _ _
      | exact spec_WidenRow.mono _ _ _ _ _ _ _ _ _
      | exact LeO.none _
      | refine LeO.ite ?_ ?_
      | refine LeO.bind ?_ (fun _ => ?_)
    · intro y0 y1 y2
      unfold laws_FnExactWidenRow.j2
      repeat' first
      | (with_reducible exact ih0 _ _ _ _ _ _ _ _ _ _ _ _ _ _ _ _ _ _)
      | (with_reducible exact ih1 _ _ _ _ _ _ _ _ _ _ _ _)
      | (with_reducible exact ih2 _ _ _)
      | (with_reducible exact impl_WidenRow.mono _ _ _ _ _ _ _ _ _)
      | (with_reducible exact laws_eqTable.mono _ _ _ _ _ _ _ _ _)
      | (with_reducible exact laws_eqValueS.mono _ _ _)
      | (with_reducible exact laws_heldValueS.mono _ _ _)
      | (with_reducible exact laws_markTable.mono _ _ _ _ _ _)
      | (with_reducible exact laws_markValueS.mono _ _ _)
      | (with_reducible exact laws_szTable.mono _ _ _ _ _ _)
      | (with_reducible exact laws_szValueS.mono _ _ _)
      | (with_reducible exact laws_toTable.mono _ _ _ _ _)
      | (with_reducible exact laws_toValueS.mono _ _)
      | (with_reducible exact spec_WidenRow.mono _ _ _ _ _ _ _ _ _)
      | (with_reducible exact LeO.refl _)
      | (with_reducible exact LeO.none _)
      | (with_reducible refine LeO.ite ?_ ?_)
      | (with_reducible refine LeO.bind ?_ (fun _ => ?_))
      | exact ih0 _ _ _ _ _ _ _ _ _ _ _ _ _ _ _ _ _ _
      | exact ih1 _ _ _ _ _ _ _ _ _ _ _ _
      | exact ih2 _ _ _
      | exact impl_WidenRow.mono _ _ _ _ _ _ _ _ _
      | exact laws_eqTable.mono _ _ _ _ _ _ _ _ _
      | exact laws_eqValueS.mono _ _ _
      | exact laws_heldValueS.mono _ _ _
      | exact laws_markTable.mono _ _ _ _ _ _
      | exact laws_markValueS.mono _ _ _
      | exact laws_szTable.mono _ _ _ _ _ _
      | exact laws_szValueS.mono _ _ _
      | exact laws_toTable.mono _ _ _ _ _
      | exact laws_toValueS.mono _ _
      | exact spec_WidenRow.mono _ _ _ _ _ _ _ _ _
      | exact LeO.none _
      | refine LeO.ite ?_ ?_
      | refine LeO.bind ?_ (fun _ => ?_)
    intro y0 y1 y2 y3 y4 y5 y6 y7 y8 y9 y10 y11 y12 y13 y14 y15 y16 y17
    unfold laws_FnExactWidenRow.j0
    repeat' first
    | (with_reducible exact ih0 _ _ _ _ _ _ _ _ _ _ _ _ _ _ _ _ _ _)
    | (with_reducible exact ih1 _ _ _ _ _ _ _ _ _ _ _ _)
    | (with_reducible exact ih2 _ _ _)
    | (with_reducible exact impl_WidenRow.mono _ _ _ _ _ _ _ _ _)
    | (with_reducible exact laws_eqTable.mono _ _ _ _ _ _ _ _ _)
    | (with_reducible exact laws_eqValueS.mono _ _ _)
    | (with_reducible exact laws_heldValueS.mono _ _ _)
    | (with_reducible exact laws_markTable.mono _ _ _ _ _ _)
    | (with_reducible exact laws_markValueS.mono _ _ _)
    | (with_reducible exact laws_szTable.mono _ _ _ _ _ _)
    | (with_reducible exact laws_szValueS.mono _ _ _)
    | (with_reducible exact laws_toTable.mono _ _ _ _ _)
    | (with_reducible exact laws_toValueS.mono _ _)
    | (with_reducible exact spec_WidenRow.mono _ _ _ _ _ _ _ _ _)
    | (with_reducible exact LeO.refl _)
    | (with_reducible exact LeO.none _)
    | (with_reducible refine LeO.ite ?_ ?_)
    | (with_reducible refine LeO.bind ?_ (fun _ => ?_))
    | exact ih0 _ _ _ _ _ _ _ _ _ _ _ _ _ _ _ _ _ _
    | exact ih1 _ _ _ _ _ _ _ _ _ _ _ _
    | exact ih2 _ _ _
    | exact impl_WidenRow.mono _ _ _ _ _ _ _ _ _
    | exact laws_eqTable.mono _ _ _ _ _ _ _ _ _
    | exact laws_eqValueS.mono _ _ _
    | exact laws_heldValueS.mono _ _ _
    | exact laws_markTable.mono _ _ _ _ _ _
    | exact laws_markValueS.mono _ _ _
    | exact laws_szTable.mono _ _ _ _ _ _
    | exact laws_szValueS.mono _ _ _
    | exact laws_toTable.mono _ _ _ _ _
    | exact laws_toValueS.mono _ _
    | exact spec_WidenRow.mono _ _ _ _ _ _ _ _ _
    | exact LeO.none _
    | refine LeO.ite ?_ ?_
    | refine LeO.bind ?_ (fun _ => ?_)
theorem laws_FnExactWidenRow.mono : ∀ a0 a1 a2 a3 a4 a5 a6 a7 k, LeO (laws_FnExactWidenRow.f k a0 a1 a2 a3 a4 a5 a6 a7) (laws_FnExactWidenRow.f (k + 1) a0 a1 a2 a3 a4 a5 a6 a7) := by
  intro a0 a1 a2 a3 a4 a5 a6 a7 k
  obtain ⟨ih0, ih1, ih2⟩ := laws_FnExactWidenRow.mono_l k
  unfold laws_FnExactWidenRow.f
  repeat' first
      | (with_reducible exact ih0 _ _ _ _ _ _ _ _ _ _ _ _ _ _ _ _ _ _)
      | (with_reducible exact ih1 _ _ _ _ _ _ _ _ _ _ _ _)
      | (with_reducible exact ih2 _ _ _)
      | (with_reducible exact impl_WidenRow.mono _ _ _ _ _ _ _ _ _)
      | (with_reducible exact laws_eqTable.mono _ _ _ _ _ _ _ _ _)
      | (with_reducible exact laws_eqValueS.mono _ _ _)
      | (with_reducible exact laws_heldValueS.mono _ _ _)
      | (with_reducible exact laws_markTable.mono _ _ _ _ _ _)
      | (with_reducible exact laws_markValueS.mono _ _ _)
      | (with_reducible exact laws_szTable.mono _ _ _ _ _ _)
      | (with_reducible exact laws_szValueS.mono _ _ _)
      | (with_reducible exact laws_toTable.mono _ _ _ _ _)
      | (with_reducible exact laws_toValueS.mono _ _)
      | (with_reducible exact spec_WidenRow.mono _ _ _ _ _ _ _ _ _)
      | (with_reducible exact LeO.refl _)
      | (with_reducible exact LeO.none _)
      | (with_reducible refine LeO.ite ?_ ?_)
      | (with_reducible refine LeO.bind ?_ (fun _ => ?_))
      | exact ih0 _ _ _ _ _ _ _ _ _ _ _ _ _ _ _ _ _ _
      | exact ih1 _ _ _ _ _ _ _ _ _ _ _ _
      | exact ih2 _ _ _
      | exact impl_WidenRow.mono _ _ _ _ _ _ _ _ _
      | exact laws_eqTable.mono _ _ _ _ _ _ _ _ _
      | exact laws_eqValueS.mono _ _ _
      | exact laws_heldValueS.mono _ _ _
      | exact laws_markTable.mono _ _ _ _ _ _
      | exact laws_markValueS.mono _ _ _
      | exact laws_szTable.mono _ _ _ _ _ _
      | exact laws_szValueS.mono _ _ _
      | exact laws_toTable.mono _ _ _ _ _
      | exact laws_toValueS.mono _ _
      | exact spec_WidenRow.mono _ _ _ _ _ _ _ _ _
      | exact LeO.none _
      | refine LeO.ite ?_ ?_
      | refine LeO.bind ?_ (fun _ => ?_)
def laws_FnExactWidenRow.T11 : Bool × List (List Nat × List Nat) := (true, [([], []), ([0], [0]), ([], []), ([2, 1], [2]), ([], []), ([4, 3], [4]), ([1, 3, 5, 5], [1, 3, 5]), ([6], [6]), ([7], [7]), ([7], [7]), ([8, 6, 0, 1, 2, 3, 4, 5, 6, 7, 8], [8]), ([9, 10, 0, 1, 2, 3, 4, 5, 6, 7, 8, 9, 10], [9])])
def laws_FnExactWidenRow.B11 : List Nat := [0, 1, 0, 7, 0, 31, 63, 127, 255, 255, 511, 2047]
theorem laws_FnExactWidenRow.tab11 : rtab .any (opsOf Tryd.f3 11) = laws_FnExactWidenRow.T11 := by kernel_rfl
theorem laws_FnExactWidenRow.bits11 : waitsOk laws_FnExactWidenRow.T11.2 laws_FnExactWidenRow.B11 = true := by kernel_rfl
def laws_FnExactWidenRow.T14 : Bool × List (List Nat × List Nat) := (true, [([], []), ([], []), ([], []), ([2], [2]), ([0, 1, 3, 3], [0, 1, 3]), ([4], [4]), ([5], [5]), ([5], [5]), ([6, 4, 0, 1, 2, 3, 4, 5, 6], [6]), ([7, 8, 0, 1, 2, 3, 4, 5, 6, 7, 8], [7])])
def laws_FnExactWidenRow.B14 : List Nat := [0, 0, 0, 4, 15, 31, 63, 63, 127, 511]
theorem laws_FnExactWidenRow.tab14 : rtab .any (opsOf Tryd.f3 14) = laws_FnExactWidenRow.T14 := by kernel_rfl
theorem laws_FnExactWidenRow.bits14 : waitsOk laws_FnExactWidenRow.T14.2 laws_FnExactWidenRow.B14 = true := by kernel_rfl
def laws_FnExactWidenRow.T34 : Bool × List (List Nat × List Nat) := (true, [([], []), ([0], [0]), ([], []), ([2, 1], [2]), ([], []), ([4, 3], [4]), ([1, 3, 5, 5], [1, 3, 5]), ([6], [6]), ([7], [7]), ([7], [7]), ([8, 6, 0, 1, 2, 3, 4, 5, 6, 7, 8], [8]), ([9, 10, 0, 1, 2, 3, 4, 5, 6, 7, 8, 9, 10], [9])])
def laws_FnExactWidenRow.B34 : List Nat := [0, 1, 0, 7, 0, 31, 63, 127, 255, 255, 511, 2047]
theorem laws_FnExactWidenRow.tab34 : rtab .any (opsOf Tryd.f3 34) = laws_FnExactWidenRow.T34 := by kernel_rfl
theorem laws_FnExactWidenRow.bits34 : waitsOk laws_FnExactWidenRow.T34.2 laws_FnExactWidenRow.B34 = true := by kernel_rfl
set_option maxHeartbeats 8000000 in
set_option maxRecDepth 100000 in
theorem laws_FnExactWidenRow.calls (k : Nat) (a0_0 : ByteArray) (A0_1 : Option Addr) (c0_1 : Nat) (l0_1 : List (S64)) (a0_2 : Int) (A0_3 : Option Addr) (c0_3 : Nat) (l0_3 : List (S68)) (A1 : Option Addr) (c1 : Nat) (l1 : List (S28)) (a2_0 : Int) (a2_1 : Int) (a2_2 : ByteArray) (r : Bool) (w : World) (hr0_1 : Kd.C k64 w A0_1 l0_1.length l0_1) (hc0_1 : l0_1.length ≤ c0_1) (hr0_3 : Kd.C k68 w A0_3 l0_3.length l0_3) (hc0_3 : l0_3.length ≤ c0_3) (hr1 : Kd.C k28 w A1 l1.length l1) (hc1 : l1.length ≤ c1) (h : laws_FnExactWidenRow.f k a0_0 l0_1 a0_2 l0_3 l1 a2_0 a2_1 a2_2 = some r) :
    Calls Tryd.prog 3 #[.agg #[.string a0_0, .slice A0_1 l0_1.length c0_1, .int .i64 a0_2, .slice A0_3 l0_3.length c0_3], .slice A1 l1.length c1, .agg #[.int .i64 a2_0, .int .i64 a2_1, .string a2_2]] w fun e w' => e = .returned (.bool r) ∧ Below w.heap.size w w' := by
  have hu25 := Tryd.underlying25
  have hu28 := Tryd.underlying28
  have hu38 := Tryd.underlying38
  have HR0_1 := ak_ hr0_1
  have HC0_1 := ak_ hc0_1
  clear hr0_1 hc0_1
  have HR0_3 := ak_ hr0_3
  have HC0_3 := ak_ hc0_3
  clear hr0_3 hc0_3
  have HR1 := ak_ hr1
  have HC1 := ak_ hc1
  clear hr1 hc1
  have HB := ak_ (Below.refl w.heap.size w)
  have H : ((laws_szTable.f k a0_0 l0_1 a0_2 l0_3 1048576).bind fun t103 => (if t103 < 0 then (some true) else ((laws_szValueS.f k l1 t103).bind fun t104 => (if t104 < 0 then (some true) else ((laws_szValue.f a2_0 a2_1 a2_2 t104).bind fun t105 => (if t105 < 0 then (some true) else ((laws_toTable.f k a0_0 l0_1 a0_2 l0_3).bind fun bt106 => ((laws_toValueS.f k l1).bind fun t114 => ((laws_toValue.f a2_0 a2_1 a2_2).bind fun bt117 => ((spec_WidenRow.f k bt106.1 bt106.2.1 bt106.2.2.1 bt106.2.2.2 t114 bt117.1 bt117.2.1 bt117.2.2).bind fun bt120 => ((laws_toTable.f k a0_0 l0_1 a0_2 l0_3).bind fun bt124 => ((laws_toValueS.f k l1).bind fun t133 => ((laws_toValue.f a2_0 a2_1 a2_2).bind fun bt136 => ((impl_WidenRow.f k bt124.1 bt124.2.1 bt124.2.2.1 bt124.2.2.2 t133 bt136.1 bt136.2.1 bt136.2.2).bind fun bt139 => ((laws_eqValueS.f k bt139.1 bt120.1).bind fun t143 => (if t143 = true then (laws_FnExactWidenRow.j0 k l1 bt120.1 bt120.2 t133 bt139.1 bt139.2 (bt139.2 != bt120.2) a0_0 l0_1 a0_2 l0_3 a2_0 a2_1 a2_2 bt124.1 bt124.2.1 bt124.2.2.1 bt124.2.2.2) else (laws_FnExactWidenRow.j0 k l1 bt120.1 bt120.2 t133 bt139.1 bt139.2 true a0_0 l0_1 a0_2 l0_3 a2_0 a2_1 a2_2 bt124.1 bt124.2.1 bt124.2.2.1 bt124.2.2.2))))))))))))))))) = some r := h
  clear h
  replace H := Option.bind_eq_some_iff.mp H
  obtain ⟨t103, A40, H⟩ := H
  have A4 := ak_ A40
  clear A40
  by_cases c5 : t103 < 0
  · rw [if_pos c5] at H
    have c5b0 := decide_eq_true c5
    clear c5
    obtain rfl := Option.some.inj H
    go_enter Tryd.func3, Tryd.ntmps3
    go_wp2_with (first | ((with_reducible refine gate_dst (N := 3) rfl ?_); refine bx_ 3 (cs := #[.string a0_0, .slice A0_1 l0_1.length c0_1, .int .i64 a0_2, .slice A0_3 l0_3.length c0_3]) (t := 25) (h_ := ?_); intro gb101 hg w6 hbox hb; have n_ := a4_ (below_step z0_ hb) (hbox) ((gs_ w hg (below_size z0_))) ((gs_ w hg (below_size z0_))); clear HB; obtain ⟨HB, BK101, GW101, GE101⟩ := n_; clear hb hbox hg) | ((with_reducible refine gate_dst (N := 5) rfl ?_); refine bx_ 5 (cs := #[.int .i64 a2_0, .int .i64 a2_1, .string a2_2]) (t := 28) (h_ := ?_); intro gb102 hg w7 hbox hb; have n_ := a7_ (blk_below (g := gb101) (o := .cells #[.string a0_0, .slice A0_1 l0_1.length c0_1, .int .i64 a0_2, .slice A0_3 l0_3.length c0_3] 25 (0, 0)) z2_ hb) (below_step z1_ hb) (hbox) ((gs_ w hg (below_size z1_))) ((gs_ w hg (below_size z1_))) ((z27_ : gb101 ≠ gb102)) ((z28_ : gb102 ≠ gb101)); clear BK101 HB; obtain ⟨BK101, HB, BK102, GW102, GE102, NB101_102, NB102_101⟩ := n_; clear hb hbox hg; have hnb8 := NB101_102.out; have hnc8 := NB102_101.out; obtain ⟨hcz9_0, hcz9_1, hcz9_2, hcz9_3, hfz9_0, hfz9_1, hfz9_2, hfz9_3⟩ := bcf4 BK101.out) | ((with_reducible refine gate_callee (f := 4) rfl ?_); refine goesL_ (some 21) rfl rfl Tryd.func4 (by kernel_rfl) rfl #[.agg #[.string a0_0, .slice A0_1 l0_1.length c0_1, .int .i64 a0_2, .slice A0_3 l0_3.length c0_3], .int .i64 1048576] rfl z4_ ?_; (with_reducible refine (laws_szTable.calls k a0_0 _ _ l0_1 a0_2 _ _ l0_3 1048576 t103 _ ?side1 ?side2 ?side3 ?side4 A4.out).mono ?_); (case side1 => repeat (first | exact (Kd.C_below HR0_1.out HB.out) | (with_reducible refine Kd.C_alloc ?_ _) | (with_reducible refine Kd.C_drewN ?_ _) | (with_reducible refine Kd.C_drew ?_))); (case side2 => exact HC0_1.out); (case side3 => repeat (first | exact (Kd.C_below HR0_3.out HB.out) | (with_reducible refine Kd.C_alloc ?_ _) | (with_reducible refine Kd.C_drewN ?_ _) | (with_reducible refine Kd.C_drew ?_))); (case side4 => exact HC0_3.out); rintro e w10 ⟨rfl, hb⟩; refine ⟨_, rfl, ?_⟩; have n_ := a3_ (blk_below (g := gb101) (o := .cells #[.string a0_0, .slice A0_1 l0_1.length c0_1, .int .i64 a0_2, .slice A0_3 l0_3.length c0_3] 25 (0, 0)) z2_ hb) (blk_below (g := gb102) (o := .cells #[.int .i64 a2_0, .int .i64 a2_1, .string a2_2] 28 (0, 0)) z5_ hb) (below_step z3_ hb); clear BK101 BK102 HB; obtain ⟨BK101, BK102, HB⟩ := n_; (try clear hb); (try clear hb2); (try clear hk); (try clear hi)))
    go_ret
    exact ⟨z6_, z3_⟩
  rw [if_neg c5] at H
  have c5b0 := decide_eq_false c5
  clear c5
  replace H := Option.bind_eq_some_iff.mp H
  obtain ⟨t104, A110, H⟩ := H
  have A11 := ak_ A110
  clear A110
  by_cases c12 : t104 < 0
  · rw [if_pos c12] at H
    have c12b0 := decide_eq_true c12
    clear c12
    obtain rfl := Option.some.inj H
    go_enter Tryd.func3, Tryd.ntmps3
    go_wp2_with (first | ((with_reducible refine gate_dst (N := 3) rfl ?_); refine bx_ 3 (cs := #[.string a0_0, .slice A0_1 l0_1.length c0_1, .int .i64 a0_2, .slice A0_3 l0_3.length c0_3]) (t := 25) (h_ := ?_); intro gb101 hg w13 hbox hb; have n_ := a4_ (below_step z0_ hb) (hbox) ((gs_ w hg (below_size z0_))) ((gs_ w hg (below_size z0_))); clear HB; obtain ⟨HB, BK101, GW101, GE101⟩ := n_; clear hb hbox hg) | ((with_reducible refine gate_dst (N := 5) rfl ?_); refine bx_ 5 (cs := #[.int .i64 a2_0, .int .i64 a2_1, .string a2_2]) (t := 28) (h_ := ?_); intro gb102 hg w14 hbox hb; have n_ := a7_ (blk_below (g := gb101) (o := .cells #[.string a0_0, .slice A0_1 l0_1.length c0_1, .int .i64 a0_2, .slice A0_3 l0_3.length c0_3] 25 (0, 0)) z2_ hb) (below_step z1_ hb) (hbox) ((gs_ w hg (below_size z1_))) ((gs_ w hg (below_size z1_))) ((z27_ : gb101 ≠ gb102)) ((z28_ : gb102 ≠ gb101)); clear BK101 HB; obtain ⟨BK101, HB, BK102, GW102, GE102, NB101_102, NB102_101⟩ := n_; clear hb hbox hg; have hnb15 := NB101_102.out; have hnc15 := NB102_101.out; obtain ⟨hcz16_0, hcz16_1, hcz16_2, hcz16_3, hfz16_0, hfz16_1, hfz16_2, hfz16_3⟩ := bcf4 BK101.out) | ((with_reducible refine gate_callee (f := 4) rfl ?_); refine goesL_ (some 21) rfl rfl Tryd.func4 (by kernel_rfl) rfl #[.agg #[.string a0_0, .slice A0_1 l0_1.length c0_1, .int .i64 a0_2, .slice A0_3 l0_3.length c0_3], .int .i64 1048576] rfl z4_ ?_; (with_reducible refine (laws_szTable.calls k a0_0 _ _ l0_1 a0_2 _ _ l0_3 1048576 t103 _ ?side1 ?side2 ?side3 ?side4 A4.out).mono ?_); (case side1 => repeat (first | exact (Kd.C_below HR0_1.out HB.out) | (with_reducible refine Kd.C_alloc ?_ _) | (with_reducible refine Kd.C_drewN ?_ _) | (with_reducible refine Kd.C_drew ?_))); (case side2 => exact HC0_1.out); (case side3 => repeat (first | exact (Kd.C_below HR0_3.out HB.out) | (with_reducible refine Kd.C_alloc ?_ _) | (with_reducible refine Kd.C_drewN ?_ _) | (with_reducible refine Kd.C_drew ?_))); (case side4 => exact HC0_3.out); rintro e w17 ⟨rfl, hb⟩; refine ⟨_, rfl, ?_⟩; have n_ := a3_ (blk_below (g := gb101) (o := .cells #[.string a0_0, .slice A0_1 l0_1.length c0_1, .int .i64 a0_2, .slice A0_3 l0_3.length c0_3] 25 (0, 0)) z2_ hb) (blk_below (g := gb102) (o := .cells #[.int .i64 a2_0, .int .i64 a2_1, .string a2_2] 28 (0, 0)) z5_ hb) (below_step z3_ hb); clear BK101 BK102 HB; obtain ⟨BK101, BK102, HB⟩ := n_; (try clear hb); (try clear hb2); (try clear hk); (try clear hi)) | ((with_reducible refine gate_callee (f := 5) rfl ?_); refine goesL_ (some 26) rfl rfl Tryd.func5 (by kernel_rfl) rfl #[.slice A1 l1.length c1, .int .i64 t103] rfl z4_ ?_; (with_reducible refine (laws_szValueS.calls k _ _ l1 t103 t104 _ ?side1 ?side2 A11.out).mono ?_); (case side1 => repeat (first | exact (Kd.C_below HR1.out HB.out) | (with_reducible refine Kd.C_alloc ?_ _) | (with_reducible refine Kd.C_drewN ?_ _) | (with_reducible refine Kd.C_drew ?_))); (case side2 => exact HC1.out); rintro e w18 ⟨rfl, hb⟩; refine ⟨_, rfl, ?_⟩; have n_ := a3_ (blk_below (g := gb101) (o := .cells #[.string a0_0, .slice A0_1 l0_1.length c0_1, .int .i64 a0_2, .slice A0_3 l0_3.length c0_3] 25 (0, 0)) z2_ hb) (blk_below (g := gb102) (o := .cells #[.int .i64 a2_0, .int .i64 a2_1, .string a2_2] 28 (0, 0)) z5_ hb) (below_step z3_ hb); clear BK101 BK102 HB; obtain ⟨BK101, BK102, HB⟩ := n_; (try clear hb); (try clear hb2); (try clear hk); (try clear hi)))
    go_ret
    exact ⟨z6_, z3_⟩
  rw [if_neg c12] at H
  have c12b0 := decide_eq_false c12
  clear c12
  replace H := Option.bind_eq_some_iff.mp H
  obtain ⟨t105, A190, H⟩ := H
  have A19 := ak_ A190
  clear A190
  by_cases c20 : t105 < 0
  · rw [if_pos c20] at H
    have c20b0 := decide_eq_true c20
    clear c20
    obtain rfl := Option.some.inj H
    go_enter Tryd.func3, Tryd.ntmps3
    go_wp2_with (first | ((with_reducible refine gate_dst (N := 3) rfl ?_); refine bx_ 3 (cs := #[.string a0_0, .slice A0_1 l0_1.length c0_1, .int .i64 a0_2, .slice A0_3 l0_3.length c0_3]) (t := 25) (h_ := ?_); intro gb101 hg w21 hbox hb; have n_ := a4_ (below_step z0_ hb) (hbox) ((gs_ w hg (below_size z0_))) ((gs_ w hg (below_size z0_))); clear HB; obtain ⟨HB, BK101, GW101, GE101⟩ := n_; clear hb hbox hg) | ((with_reducible refine gate_dst (N := 5) rfl ?_); refine bx_ 5 (cs := #[.int .i64 a2_0, .int .i64 a2_1, .string a2_2]) (t := 28) (h_ := ?_); intro gb102 hg w22 hbox hb; have n_ := a7_ (blk_below (g := gb101) (o := .cells #[.string a0_0, .slice A0_1 l0_1.length c0_1, .int .i64 a0_2, .slice A0_3 l0_3.length c0_3] 25 (0, 0)) z2_ hb) (below_step z1_ hb) (hbox) ((gs_ w hg (below_size z1_))) ((gs_ w hg (below_size z1_))) ((z27_ : gb101 ≠ gb102)) ((z28_ : gb102 ≠ gb101)); clear BK101 HB; obtain ⟨BK101, HB, BK102, GW102, GE102, NB101_102, NB102_101⟩ := n_; clear hb hbox hg; have hnb23 := NB101_102.out; have hnc23 := NB102_101.out; obtain ⟨hcz24_0, hcz24_1, hcz24_2, hcz24_3, hfz24_0, hfz24_1, hfz24_2, hfz24_3⟩ := bcf4 BK101.out) | ((with_reducible refine gate_callee (f := 4) rfl ?_); refine goesL_ (some 21) rfl rfl Tryd.func4 (by kernel_rfl) rfl #[.agg #[.string a0_0, .slice A0_1 l0_1.length c0_1, .int .i64 a0_2, .slice A0_3 l0_3.length c0_3], .int .i64 1048576] rfl z4_ ?_; (with_reducible refine (laws_szTable.calls k a0_0 _ _ l0_1 a0_2 _ _ l0_3 1048576 t103 _ ?side1 ?side2 ?side3 ?side4 A4.out).mono ?_); (case side1 => repeat (first | exact (Kd.C_below HR0_1.out HB.out) | (with_reducible refine Kd.C_alloc ?_ _) | (with_reducible refine Kd.C_drewN ?_ _) | (with_reducible refine Kd.C_drew ?_))); (case side2 => exact HC0_1.out); (case side3 => repeat (first | exact (Kd.C_below HR0_3.out HB.out) | (with_reducible refine Kd.C_alloc ?_ _) | (with_reducible refine Kd.C_drewN ?_ _) | (with_reducible refine Kd.C_drew ?_))); (case side4 => exact HC0_3.out); rintro e w25 ⟨rfl, hb⟩; refine ⟨_, rfl, ?_⟩; have n_ := a3_ (blk_below (g := gb101) (o := .cells #[.string a0_0, .slice A0_1 l0_1.length c0_1, .int .i64 a0_2, .slice A0_3 l0_3.length c0_3] 25 (0, 0)) z2_ hb) (blk_below (g := gb102) (o := .cells #[.int .i64 a2_0, .int .i64 a2_1, .string a2_2] 28 (0, 0)) z5_ hb) (below_step z3_ hb); clear BK101 BK102 HB; obtain ⟨BK101, BK102, HB⟩ := n_; (try clear hb); (try clear hb2); (try clear hk); (try clear hi)) | ((with_reducible refine gate_callee (f := 5) rfl ?_); refine goesL_ (some 26) rfl rfl Tryd.func5 (by kernel_rfl) rfl #[.slice A1 l1.length c1, .int .i64 t103] rfl z4_ ?_; (with_reducible refine (laws_szValueS.calls k _ _ l1 t103 t104 _ ?side1 ?side2 A11.out).mono ?_); (case side1 => repeat (first | exact (Kd.C_below HR1.out HB.out) | (with_reducible refine Kd.C_alloc ?_ _) | (with_reducible refine Kd.C_drewN ?_ _) | (with_reducible refine Kd.C_drew ?_))); (case side2 => exact HC1.out); rintro e w26 ⟨rfl, hb⟩; refine ⟨_, rfl, ?_⟩; have n_ := a3_ (blk_below (g := gb101) (o := .cells #[.string a0_0, .slice A0_1 l0_1.length c0_1, .int .i64 a0_2, .slice A0_3 l0_3.length c0_3] 25 (0, 0)) z2_ hb) (blk_below (g := gb102) (o := .cells #[.int .i64 a2_0, .int .i64 a2_1, .string a2_2] 28 (0, 0)) z5_ hb) (below_step z3_ hb); clear BK101 BK102 HB; obtain ⟨BK101, BK102, HB⟩ := n_; (try clear hb); (try clear hb2); (try clear hk); (try clear hi); obtain ⟨hcz27_0, hcz27_1, hcz27_2, hfz27_0, hfz27_1, hfz27_2⟩ := bcf3 BK102.out) | ((with_reducible refine gate_callee (f := 6) rfl ?_); refine goesL_ (some 31) rfl rfl Tryd.func6 (by kernel_rfl) rfl #[.agg #[.int .i64 a2_0, .int .i64 a2_1, .string a2_2], .int .i64 t104] rfl z4_ ?_; (with_reducible refine (laws_szValue.calls a2_0 a2_1 a2_2 t104 t105 _ A19.out).mono ?_); rintro e w28 ⟨rfl, hb⟩; refine ⟨_, rfl, ?_⟩; have n_ := a3_ (blk_below (g := gb101) (o := .cells #[.string a0_0, .slice A0_1 l0_1.length c0_1, .int .i64 a0_2, .slice A0_3 l0_3.length c0_3] 25 (0, 0)) z2_ hb) (blk_below (g := gb102) (o := .cells #[.int .i64 a2_0, .int .i64 a2_1, .string a2_2] 28 (0, 0)) z5_ hb) (below_step z3_ hb); clear BK101 BK102 HB; obtain ⟨BK101, BK102, HB⟩ := n_; (try clear hb); (try clear hb2); (try clear hk); (try clear hi)))
    go_ret
    exact ⟨z6_, z3_⟩
  rw [if_neg c20] at H
  have c20b0 := decide_eq_false c20
  clear c20
  replace H := Option.bind_eq_some_iff.mp H
  obtain ⟨⟨t106, t107, t110, t111⟩, A290, H⟩ := H
  replace H : ((laws_toValueS.f k l1).bind fun t114 => ((laws_toValue.f a2_0 a2_1 a2_2).bind fun bt117 => ((spec_WidenRow.f k t106 t107 t110 t111 t114 bt117.1 bt117.2.1 bt117.2.2).bind fun bt120 => ((laws_toTable.f k a0_0 l0_1 a0_2 l0_3).bind fun bt124 => ((laws_toValueS.f k l1).bind fun t133 => ((laws_toValue.f a2_0 a2_1 a2_2).bind fun bt136 => ((impl_WidenRow.f k bt124.1 bt124.2.1 bt124.2.2.1 bt124.2.2.2 t133 bt136.1 bt136.2.1 bt136.2.2).bind fun bt139 => ((laws_eqValueS.f k bt139.1 bt120.1).bind fun t143 => (if t143 = true then (laws_FnExactWidenRow.j0 k l1 bt120.1 bt120.2 t133 bt139.1 bt139.2 (bt139.2 != bt120.2) a0_0 l0_1 a0_2 l0_3 a2_0 a2_1 a2_2 bt124.1 bt124.2.1 bt124.2.2.1 bt124.2.2.2) else (laws_FnExactWidenRow.j0 k l1 bt120.1 bt120.2 t133 bt139.1 bt139.2 true a0_0 l0_1 a0_2 l0_3 a2_0 a2_1 a2_2 bt124.1 bt124.2.1 bt124.2.2.1 bt124.2.2.2)))))))))) = some r := H
  have A29 := ak_ A290
  clear A290
  replace H := Option.bind_eq_some_iff.mp H
  obtain ⟨t114, A300, H⟩ := H
  have A30 := ak_ A300
  clear A300
  replace H := Option.bind_eq_some_iff.mp H
  obtain ⟨⟨t117, t118, t119⟩, A310, H⟩ := H
  replace H : ((spec_WidenRow.f k t106 t107 t110 t111 t114 t117 t118 t119).bind fun bt120 => ((laws_toTable.f k a0_0 l0_1 a0_2 l0_3).bind fun bt124 => ((laws_toValueS.f k l1).bind fun t133 => ((laws_toValue.f a2_0 a2_1 a2_2).bind fun bt136 => ((impl_WidenRow.f k bt124.1 bt124.2.1 bt124.2.2.1 bt124.2.2.2 t133 bt136.1 bt136.2.1 bt136.2.2).bind fun bt139 => ((laws_eqValueS.f k bt139.1 bt120.1).bind fun t143 => (if t143 = true then (laws_FnExactWidenRow.j0 k l1 bt120.1 bt120.2 t133 bt139.1 bt139.2 (bt139.2 != bt120.2) a0_0 l0_1 a0_2 l0_3 a2_0 a2_1 a2_2 bt124.1 bt124.2.1 bt124.2.2.1 bt124.2.2.2) else (laws_FnExactWidenRow.j0 k l1 bt120.1 bt120.2 t133 bt139.1 bt139.2 true a0_0 l0_1 a0_2 l0_3 a2_0 a2_1 a2_2 bt124.1 bt124.2.1 bt124.2.2.1 bt124.2.2.2)))))))) = some r := H
  have A31 := ak_ A310
  clear A310
  replace H := Option.bind_eq_some_iff.mp H
  obtain ⟨⟨t120, t123⟩, A320, H⟩ := H
  replace H : ((laws_toTable.f k a0_0 l0_1 a0_2 l0_3).bind fun bt124 => ((laws_toValueS.f k l1).bind fun t133 => ((laws_toValue.f a2_0 a2_1 a2_2).bind fun bt136 => ((impl_WidenRow.f k bt124.1 bt124.2.1 bt124.2.2.1 bt124.2.2.2 t133 bt136.1 bt136.2.1 bt136.2.2).bind fun bt139 => ((laws_eqValueS.f k bt139.1 t120).bind fun t143 => (if t143 = true then (laws_FnExactWidenRow.j0 k l1 t120 t123 t133 bt139.1 bt139.2 (bt139.2 != t123) a0_0 l0_1 a0_2 l0_3 a2_0 a2_1 a2_2 bt124.1 bt124.2.1 bt124.2.2.1 bt124.2.2.2) else (laws_FnExactWidenRow.j0 k l1 t120 t123 t133 bt139.1 bt139.2 true a0_0 l0_1 a0_2 l0_3 a2_0 a2_1 a2_2 bt124.1 bt124.2.1 bt124.2.2.1 bt124.2.2.2))))))) = some r := H
  have A32 := ak_ A320
  clear A320
  replace H := Option.bind_eq_some_iff.mp H
  obtain ⟨⟨t124, t125, t128, t129⟩, A330, H⟩ := H
  replace H : ((laws_toValueS.f k l1).bind fun t133 => ((laws_toValue.f a2_0 a2_1 a2_2).bind fun bt136 => ((impl_WidenRow.f k t124 t125 t128 t129 t133 bt136.1 bt136.2.1 bt136.2.2).bind fun bt139 => ((laws_eqValueS.f k bt139.1 t120).bind fun t143 => (if t143 = true then (laws_FnExactWidenRow.j0 k l1 t120 t123 t133 bt139.1 bt139.2 (bt139.2 != t123) a0_0 l0_1 a0_2 l0_3 a2_0 a2_1 a2_2 t124 t125 t128 t129) else (laws_FnExactWidenRow.j0 k l1 t120 t123 t133 bt139.1 bt139.2 true a0_0 l0_1 a0_2 l0_3 a2_0 a2_1 a2_2 t124 t125 t128 t129)))))) = some r := H
  have A33 := ak_ A330
  clear A330
  replace H := Option.bind_eq_some_iff.mp H
  obtain ⟨t133, A340, H⟩ := H
  have A34 := ak_ A340
  clear A340
  replace H := Option.bind_eq_some_iff.mp H
  obtain ⟨⟨t136, t137, t138⟩, A350, H⟩ := H
  replace H : ((impl_WidenRow.f k t124 t125 t128 t129 t133 t136 t137 t138).bind fun bt139 => ((laws_eqValueS.f k bt139.1 t120).bind fun t143 => (if t143 = true then (laws_FnExactWidenRow.j0 k l1 t120 t123 t133 bt139.1 bt139.2 (bt139.2 != t123) a0_0 l0_1 a0_2 l0_3 a2_0 a2_1 a2_2 t124 t125 t128 t129) else (laws_FnExactWidenRow.j0 k l1 t120 t123 t133 bt139.1 bt139.2 true a0_0 l0_1 a0_2 l0_3 a2_0 a2_1 a2_2 t124 t125 t128 t129)))) = some r := H
  have A35 := ak_ A350
  clear A350
  replace H := Option.bind_eq_some_iff.mp H
  obtain ⟨⟨t139, t142⟩, A360, H⟩ := H
  replace H : ((laws_eqValueS.f k t139 t120).bind fun t143 => (if t143 = true then (laws_FnExactWidenRow.j0 k l1 t120 t123 t133 t139 t142 (t142 != t123) a0_0 l0_1 a0_2 l0_3 a2_0 a2_1 a2_2 t124 t125 t128 t129) else (laws_FnExactWidenRow.j0 k l1 t120 t123 t133 t139 t142 true a0_0 l0_1 a0_2 l0_3 a2_0 a2_1 a2_2 t124 t125 t128 t129))) = some r := H
  have A36 := ak_ A360
  clear A360
  have HC37 := ak_ H
  clear H
  go_enter Tryd.func3, Tryd.ntmps3
  try go_wp2_with (first | ((with_reducible refine gate_dst (N := 3) rfl ?_); refine bx_ 3 (cs := #[.string a0_0, .slice A0_1 l0_1.length c0_1, .int .i64 a0_2, .slice A0_3 l0_3.length c0_3]) (t := 25) (h_ := ?_); intro gb101 hg w38 hbox hb; have n_ := a4_ (below_step z0_ hb) (hbox) ((gs_ w hg (below_size z0_))) ((gs_ w hg (below_size z0_))); clear HB; obtain ⟨HB, BK101, GW101, GE101⟩ := n_; clear hb hbox hg) | ((with_reducible refine gate_dst (N := 5) rfl ?_); refine bx_ 5 (cs := #[.int .i64 a2_0, .int .i64 a2_1, .string a2_2]) (t := 28) (h_ := ?_); intro gb102 hg w39 hbox hb; have n_ := a7_ (blk_below (g := gb101) (o := .cells #[.string a0_0, .slice A0_1 l0_1.length c0_1, .int .i64 a0_2, .slice A0_3 l0_3.length c0_3] 25 (0, 0)) z2_ hb) (below_step z1_ hb) (hbox) ((gs_ w hg (below_size z1_))) ((gs_ w hg (below_size z1_))) ((z27_ : gb101 ≠ gb102)) ((z28_ : gb102 ≠ gb101)); clear BK101 HB; obtain ⟨BK101, HB, BK102, GW102, GE102, NB101_102, NB102_101⟩ := n_; clear hb hbox hg; have hnb40 := NB101_102.out; have hnc40 := NB102_101.out; obtain ⟨hcz41_0, hcz41_1, hcz41_2, hcz41_3, hfz41_0, hfz41_1, hfz41_2, hfz41_3⟩ := bcf4 BK101.out) | ((with_reducible refine gate_callee (f := 4) rfl ?_); refine goesL_ (some 21) rfl rfl Tryd.func4 (by kernel_rfl) rfl #[.agg #[.string a0_0, .slice A0_1 l0_1.length c0_1, .int .i64 a0_2, .slice A0_3 l0_3.length c0_3], .int .i64 1048576] rfl z4_ ?_; (with_reducible refine (laws_szTable.calls k a0_0 _ _ l0_1 a0_2 _ _ l0_3 1048576 t103 _ ?side1 ?side2 ?side3 ?side4 A4.out).mono ?_); (case side1 => repeat (first | exact (Kd.C_below HR0_1.out HB.out) | (with_reducible refine Kd.C_alloc ?_ _) | (with_reducible refine Kd.C_drewN ?_ _) | (with_reducible refine Kd.C_drew ?_))); (case side2 => exact HC0_1.out); (case side3 => repeat (first | exact (Kd.C_below HR0_3.out HB.out) | (with_reducible refine Kd.C_alloc ?_ _) | (with_reducible refine Kd.C_drewN ?_ _) | (with_reducible refine Kd.C_drew ?_))); (case side4 => exact HC0_3.out); rintro e w42 ⟨rfl, hb⟩; refine ⟨_, rfl, ?_⟩; have n_ := a3_ (blk_below (g := gb101) (o := .cells #[.string a0_0, .slice A0_1 l0_1.length c0_1, .int .i64 a0_2, .slice A0_3 l0_3.length c0_3] 25 (0, 0)) z2_ hb) (blk_below (g := gb102) (o := .cells #[.int .i64 a2_0, .int .i64 a2_1, .string a2_2] 28 (0, 0)) z5_ hb) (below_step z3_ hb); clear BK101 BK102 HB; obtain ⟨BK101, BK102, HB⟩ := n_; (try clear hb); (try clear hb2); (try clear hk); (try clear hi)) | ((with_reducible refine gate_callee (f := 5) rfl ?_); refine goesL_ (some 26) rfl rfl Tryd.func5 (by kernel_rfl) rfl #[.slice A1 l1.length c1, .int .i64 t103] rfl z4_ ?_; (with_reducible refine (laws_szValueS.calls k _ _ l1 t103 t104 _ ?side1 ?side2 A11.out).mono ?_); (case side1 => repeat (first | exact (Kd.C_below HR1.out HB.out) | (with_reducible refine Kd.C_alloc ?_ _) | (with_reducible refine Kd.C_drewN ?_ _) | (with_reducible refine Kd.C_drew ?_))); (case side2 => exact HC1.out); rintro e w43 ⟨rfl, hb⟩; refine ⟨_, rfl, ?_⟩; have n_ := a3_ (blk_below (g := gb101) (o := .cells #[.string a0_0, .slice A0_1 l0_1.length c0_1, .int .i64 a0_2, .slice A0_3 l0_3.length c0_3] 25 (0, 0)) z2_ hb) (blk_below (g := gb102) (o := .cells #[.int .i64 a2_0, .int .i64 a2_1, .string a2_2] 28 (0, 0)) z5_ hb) (below_step z3_ hb); clear BK101 BK102 HB; obtain ⟨BK101, BK102, HB⟩ := n_; (try clear hb); (try clear hb2); (try clear hk); (try clear hi); obtain ⟨hcz44_0, hcz44_1, hcz44_2, hfz44_0, hfz44_1, hfz44_2⟩ := bcf3 BK102.out) | ((with_reducible refine gate_callee (f := 6) rfl ?_); refine goesL_ (some 31) rfl rfl Tryd.func6 (by kernel_rfl) rfl #[.agg #[.int .i64 a2_0, .int .i64 a2_1, .string a2_2], .int .i64 t104] rfl z4_ ?_; (with_reducible refine (laws_szValue.calls a2_0 a2_1 a2_2 t104 t105 _ A19.out).mono ?_); rintro e w45 ⟨rfl, hb⟩; refine ⟨_, rfl, ?_⟩; have n_ := a3_ (blk_below (g := gb101) (o := .cells #[.string a0_0, .slice A0_1 l0_1.length c0_1, .int .i64 a0_2, .slice A0_3 l0_3.length c0_3] 25 (0, 0)) z2_ hb) (blk_below (g := gb102) (o := .cells #[.int .i64 a2_0, .int .i64 a2_1, .string a2_2] 28 (0, 0)) z5_ hb) (below_step z3_ hb); clear BK101 BK102 HB; obtain ⟨BK101, BK102, HB⟩ := n_; (try clear hb); (try clear hb2); (try clear hk); (try clear hi)))
  have n_ := a3_ (blk_drew BK101.out) (blk_drew BK102.out) (below_drew1 HB.out)
  clear BK101 BK102 HB
  obtain ⟨BK101, BK102, HB⟩ := n_
  refine start_ (n := 12) (S := fun w' => w'.cell? ⟨gb101, 0, none⟩ = some (.string a0_0) ∧ w'.cell? ⟨gb101, 1, none⟩ = some (.slice A0_1 l0_1.length c0_1) ∧ w'.cell? ⟨gb101, 2, none⟩ = some (.int .i64 a0_2) ∧ w'.cell? ⟨gb101, 3, none⟩ = some (.slice A0_3 l0_3.length c0_3) ∧ w'.cell? ⟨gb102, 0, none⟩ = some (.int .i64 a2_0) ∧ w'.cell? ⟨gb102, 1, none⟩ = some (.int .i64 a2_1) ∧ w'.cell? ⟨gb102, 2, none⟩ = some (.string a2_2)) (ds := []) #[false, false, false, false, false, false, false, false, false, false, false, false] (by kernel_rfl) rfl rfl ⟨(blk_cell BK101.out 0).trans rfl, (blk_cell BK101.out 1).trans rfl, (blk_cell BK101.out 2).trans rfl, (blk_cell BK101.out 3).trans rfl, (blk_cell BK102.out 0).trans rfl, (blk_cell BK102.out 1).trans rfl, (blk_cell BK102.out 2).trans rfl⟩ (fun hHeld => ?_); refine with_tabW laws_FnExactWidenRow.tab11 laws_FnExactWidenRow.bits11 (fun HT_ HW_ => ?_)
  generalize w45.drew = w46 at BK101 BK102 HB hHeld ⊢
  refine pu_ 2 (N := some 37) #[false, false, true, false, false, false, false, false, false, false, false, false] HT_.out (h_ := ?_)
  refine tk_ 0 (N := some 35) #[true, false, true, false, false, false, false, false, false, false, false, false] HT_.out HW_.out hHeld (hy := by rintro w' ⟨s0, s1, s2, s3, s4, s5, s6⟩; go_simp; with_reducible rfl) (h_ := ?_)
  refine tk_ 4 (N := some 39) #[true, false, true, false, true, false, false, false, false, false, false, false] HT_.out HW_.out hHeld (hy := by rintro w' ⟨s0, s1, s2, s3, s4, s5, s6⟩; go_simp; with_reducible rfl) (h_ := ?_)
  refine one_ (i := 1) (N := some 36) #[true, true, true, false, true, false, false, false, false, false, false, false] rfl rfl (one_of HT_.out (by kernel_rfl)) (by decide) (fun K hK => ?_)
  refine goes_ Tryd.func8 (by kernel_rfl) rfl #[.agg #[.string a0_0, .slice A0_1 l0_1.length c0_1, .int .i64 a0_2, .slice A0_3 l0_3.length c0_3]] (by rfl) rfl rfl z4_ ?_
  with_reducible refine (laws_toTable.calls k a0_0 _ _ l0_1 a0_2 _ _ l0_3 t106 t107 t110 t111 _ ?side1 ?side2 ?side3 ?side4 A29.out).mono ?_
  (case side1 => repeat (first | exact (Kd.C_below HR0_1.out HB.out) | (with_reducible refine Kd.C_alloc ?_ _) | (with_reducible refine Kd.C_drewN ?_ _) | (with_reducible refine Kd.C_drew ?_)))
  (case side2 => exact HC0_1.out)
  (case side3 => repeat (first | exact (Kd.C_below HR0_3.out HB.out) | (with_reducible refine Kd.C_alloc ?_ _) | (with_reducible refine Kd.C_drewN ?_ _) | (with_reducible refine Kd.C_drew ?_)))
  (case side4 => exact HC0_3.out)
  rintro e w47 ⟨v108, v112, rfl, ho0, ho1, hb⟩
  refine ⟨_, rfl, ?_⟩
  have n_ := a5_ (Kd.R_lower ho0 (below_size z3_)) (Kd.S_lower ho1 (below_size z3_)) (blk_below (g := gb101) (o := .cells #[.string a0_0, .slice A0_1 l0_1.length c0_1, .int .i64 a0_2, .slice A0_3 l0_3.length c0_3] 25 (0, 0)) z2_ hb) (blk_below (g := gb102) (o := .cells #[.int .i64 a2_0, .int .i64 a2_1, .string a2_2] 28 (0, 0)) z5_ hb) (below_step z3_ hb)
  clear BK101 BK102 HB
  obtain ⟨HO109, HO113, BK101, BK102, HB⟩ := n_
  (try clear hb)
  (try clear hb2)
  (try clear hk)
  (try clear hi)
  (try clear ho0)
  (try clear ho1)
  refine hK.out _ _ ⟨(blk_cell BK101.out 0).trans rfl, (blk_cell BK101.out 1).trans rfl, (blk_cell BK101.out 2).trans rfl, (blk_cell BK101.out 3).trans rfl, (blk_cell BK102.out 0).trans rfl, (blk_cell BK102.out 1).trans rfl, (blk_cell BK102.out 2).trans rfl⟩ (fun hHeld => ?_)
  clear hK K
  refine norm_ (a' := ?_) ?_ ?_
  rotate_left
  · show Act.put _ (some 36) _ = _
    simp only [Act.put, List.setIfInBounds_toArray, List.set_cons_zero, List.set_cons_succ, i64_w, i32_w]
    rfl
  refine one_ (i := 3) (N := some 38) #[true, true, true, true, true, false, false, false, false, false, false, false] rfl rfl (one_of HT_.out (by kernel_rfl)) (by decide) (fun K hK => ?_)
  refine goes_ Tryd.func9 (by kernel_rfl) rfl #[.slice A1 l1.length c1] (by rfl) rfl rfl z4_ ?_
  with_reducible refine (laws_toValueS.calls k _ _ l1 t114 _ ?side1 ?side2 A30.out).mono ?_
  (case side1 => repeat (first | exact (Kd.C_below HR1.out HB.out) | (with_reducible refine Kd.C_alloc ?_ _) | (with_reducible refine Kd.C_drewN ?_ _) | (with_reducible refine Kd.C_drew ?_)))
  (case side2 => exact HC1.out)
  rintro e w48 ⟨v115, rfl, ho0, hb⟩
  refine ⟨_, rfl, ?_⟩
  have n_ := a6_ (Kd.R_below z31_ hb) (Kd.S_below z32_ hb) (Kd.R_lower ho0 (below_size z3_)) (blk_below (g := gb101) (o := .cells #[.string a0_0, .slice A0_1 l0_1.length c0_1, .int .i64 a0_2, .slice A0_3 l0_3.length c0_3] 25 (0, 0)) z2_ hb) (blk_below (g := gb102) (o := .cells #[.int .i64 a2_0, .int .i64 a2_1, .string a2_2] 28 (0, 0)) z5_ hb) (below_step z3_ hb)
  clear HO109 HO113 BK101 BK102 HB
  obtain ⟨HO109, HO113, HO116, BK101, BK102, HB⟩ := n_
  (try clear hb)
  (try clear hb2)
  (try clear hk)
  (try clear hi)
  (try clear ho0)
  refine hK.out _ _ ⟨(blk_cell BK101.out 0).trans rfl, (blk_cell BK101.out 1).trans rfl, (blk_cell BK101.out 2).trans rfl, (blk_cell BK101.out 3).trans rfl, (blk_cell BK102.out 0).trans rfl, (blk_cell BK102.out 1).trans rfl, (blk_cell BK102.out 2).trans rfl⟩ (fun hHeld => ?_)
  clear hK K
  refine norm_ (a' := ?_) ?_ ?_
  rotate_left
  · show Act.put _ (some 38) _ = _
    simp only [Act.put, List.setIfInBounds_toArray, List.set_cons_zero, List.set_cons_succ, i64_w, i32_w]
    rfl
  refine one_ (i := 5) (N := some 40) #[true, true, true, true, true, true, false, false, false, false, false, false] rfl rfl (one_of HT_.out (by kernel_rfl)) (by decide) (fun K hK => ?_)
  refine goes_ Tryd.func10 (by kernel_rfl) rfl #[.agg #[.int .i64 a2_0, .int .i64 a2_1, .string a2_2]] (by rfl) rfl rfl z4_ ?_
  with_reducible refine (laws_toValue.calls a2_0 a2_1 a2_2 t117 t118 t119 _ A31.out).mono ?_
  rintro e w49 ⟨rfl, hb⟩
  refine ⟨_, rfl, ?_⟩
  have n_ := a6_ (Kd.R_below z31_ hb) (Kd.S_below z32_ hb) (Kd.R_below z33_ hb) (blk_below (g := gb101) (o := .cells #[.string a0_0, .slice A0_1 l0_1.length c0_1, .int .i64 a0_2, .slice A0_3 l0_3.length c0_3] 25 (0, 0)) z2_ hb) (blk_below (g := gb102) (o := .cells #[.int .i64 a2_0, .int .i64 a2_1, .string a2_2] 28 (0, 0)) z5_ hb) (below_step z3_ hb)
  clear HO109 HO113 HO116 BK101 BK102 HB
  obtain ⟨HO109, HO113, HO116, BK101, BK102, HB⟩ := n_
  (try clear hb)
  (try clear hb2)
  (try clear hk)
  (try clear hi)
  obtain ⟨Ao50, co50, eo50⟩ := Kd.R_slice HO109.out
  (first | subst eo50 | (injection eo50 with f1_ f2_ f3_; have f4_ := f1_.symm; have f5_ := f3_.symm; clear f1_ f2_ f3_; subst f4_; subst f5_))
  obtain ⟨Ao51, co51, eo51⟩ := Kd.S_slice HO113.out
  (first | subst eo51 | (injection eo51 with f1_ f2_ f3_; have f4_ := f1_.symm; have f5_ := f3_.symm; clear f1_ f2_ f3_; subst f4_; subst f5_))
  obtain ⟨Ao52, co52, eo52⟩ := Kd.R_slice HO116.out
  (first | subst eo52 | (injection eo52 with f1_ f2_ f3_; have f4_ := f1_.symm; have f5_ := f3_.symm; clear f1_ f2_ f3_; subst f4_; subst f5_))
  refine hK.out _ _ ⟨(blk_cell BK101.out 0).trans rfl, (blk_cell BK101.out 1).trans rfl, (blk_cell BK101.out 2).trans rfl, (blk_cell BK101.out 3).trans rfl, (blk_cell BK102.out 0).trans rfl, (blk_cell BK102.out 1).trans rfl, (blk_cell BK102.out 2).trans rfl⟩ (fun hHeld => ?_)
  clear hK K
  refine norm_ (a' := ?_) ?_ ?_
  rotate_left
  · show Act.put _ (some 40) _ = _
    simp only [Act.put, List.setIfInBounds_toArray, List.set_cons_zero, List.set_cons_succ, i64_w, i32_w]
    rfl
  refine one_ (i := 6) (N := some 41) #[true, true, true, true, true, true, true, false, false, false, false, false] rfl rfl (one_of HT_.out (by kernel_rfl)) (by decide) (fun K hK => ?_)
  refine goes_ Tryd.func7 (by kernel_rfl) rfl #[.agg #[.string t106, .slice Ao50 t107.length co50, .int .i64 t110, .slice Ao51 t111.length co51], .slice Ao52 t114.length co52, .agg #[.int .i64 t117, .int .i64 t118, .string t119]] (by rfl) rfl rfl z4_ ?_
  with_reducible refine (spec_WidenRow.calls k t106 _ _ t107 t110 _ _ t111 _ _ t114 t117 t118 t119 t120 t123 _ ?side1 ?side2 ?side3 ?side4 ?side5 ?side6 A32.out).mono ?_
  (case side1 => repeat (first | exact (Kd.R_reads' HO109.out).2.2 | (with_reducible refine Kd.C_alloc ?_ _) | (with_reducible refine Kd.C_drewN ?_ _) | (with_reducible refine Kd.C_drew ?_)))
  (case side2 => exact (Kd.R_reads' HO109.out).2.1)
  (case side3 => repeat (first | exact (Kd.S_reads' HO113.out).2.2 | (with_reducible refine Kd.C_alloc ?_ _) | (with_reducible refine Kd.C_drewN ?_ _) | (with_reducible refine Kd.C_drew ?_)))
  (case side4 => exact (Kd.S_reads' HO113.out).2.1)
  (case side5 => repeat (first | exact (Kd.R_reads' HO116.out).2.2 | (with_reducible refine Kd.C_alloc ?_ _) | (with_reducible refine Kd.C_drewN ?_ _) | (with_reducible refine Kd.C_drew ?_)))
  (case side6 => exact (Kd.R_reads' HO116.out).2.1)
  rintro e w53 ⟨v121, rfl, ho0, hb⟩
  refine ⟨_, rfl, ?_⟩
  have n_ := a7_ (Kd.R_below z31_ hb) (Kd.S_below z32_ hb) (Kd.R_elder' z33_ (Kd.R_base ho0) hb) (Kd.R_lower (Kd.R_new' ho0 (Kd.R_lt z33_)) (below_size z3_)) (blk_below (g := gb101) (o := .cells #[.string a0_0, .slice A0_1 l0_1.length c0_1, .int .i64 a0_2, .slice A0_3 l0_3.length c0_3] 25 (0, 0)) z2_ hb) (blk_below (g := gb102) (o := .cells #[.int .i64 a2_0, .int .i64 a2_1, .string a2_2] 28 (0, 0)) z5_ hb) (below_step z3_ hb)
  clear HO109 HO113 HO116 BK101 BK102 HB
  obtain ⟨HO109, HO113, HO116, HO122, BK101, BK102, HB⟩ := n_
  (try clear hb)
  (try clear hb2)
  (try clear hk)
  (try clear hi)
  (try clear ho0)
  refine hK.out _ _ ⟨(blk_cell BK101.out 0).trans rfl, (blk_cell BK101.out 1).trans rfl, (blk_cell BK101.out 2).trans rfl, (blk_cell BK101.out 3).trans rfl, (blk_cell BK102.out 0).trans rfl, (blk_cell BK102.out 1).trans rfl, (blk_cell BK102.out 2).trans rfl⟩ (fun hHeld => ?_)
  clear hK K
  refine norm_ (a' := ?_) ?_ ?_
  rotate_left
  · show Act.put _ (some 41) _ = _
    simp only [Act.put, List.setIfInBounds_toArray, List.set_cons_zero, List.set_cons_succ, i64_w, i32_w]
    rfl
  refine pu_ 7 (N := some 34) #[true, true, true, true, true, true, true, true, false, false, false, false] HT_.out (h_ := ?_)
  refine pu_ 8 (N := some 42) #[true, true, true, true, true, true, true, true, true, false, false, false] HT_.out (h_ := ?_)
  refine pu_ 9 (N := some 43) #[true, true, true, true, true, true, true, true, true, true, false, false] HT_.out (h_ := ?_)
  refine pu_ 10 (N := some 8) #[true, true, true, true, true, true, true, true, true, true, true, false] HT_.out (h_ := ?_)
  refine pu_ 11 (N := some 9) #[true, true, true, true, true, true, true, true, true, true, true, true] HT_.out (h_ := ?_)
  refine done_ (done_of HT_.out (by kernel_rfl)) ?_
  obtain ⟨hcz54_0, hcz54_1, hcz54_2, hcz54_3, hfz54_0, hfz54_1, hfz54_2, hfz54_3⟩ := bcf4 BK101.out
  try go_wp2_with (first | ((with_reducible refine gate_callee (f := 8) rfl ?_); refine goesL_ (some 45) rfl rfl Tryd.func8 (by kernel_rfl) rfl #[.agg #[.string a0_0, .slice A0_1 l0_1.length c0_1, .int .i64 a0_2, .slice A0_3 l0_3.length c0_3]] rfl z4_ ?_; (with_reducible refine (laws_toTable.calls k a0_0 _ _ l0_1 a0_2 _ _ l0_3 t124 t125 t128 t129 _ ?side1 ?side2 ?side3 ?side4 A33.out).mono ?_); (case side1 => repeat (first | exact (Kd.C_below HR0_1.out HB.out) | (with_reducible refine Kd.C_alloc ?_ _) | (with_reducible refine Kd.C_drewN ?_ _) | (with_reducible refine Kd.C_drew ?_))); (case side2 => exact HC0_1.out); (case side3 => repeat (first | exact (Kd.C_below HR0_3.out HB.out) | (with_reducible refine Kd.C_alloc ?_ _) | (with_reducible refine Kd.C_drewN ?_ _) | (with_reducible refine Kd.C_drew ?_))); (case side4 => exact HC0_3.out); rintro e w55 ⟨v126, v130, rfl, ho0, ho1, hb⟩; refine ⟨_, rfl, ?_⟩; have n_ := a9_ (Kd.R_elder' z31_ (Kd.R_base ho0) hb) (Kd.S_elder' z32_ (Kd.S_base ho1) hb) (Kd.R_below z33_ hb) (Kd.R_below z37_ hb) (Kd.R_lower (Kd.R_new' ho0 (Kd.R_lt z31_)) (below_size z3_)) (Kd.S_lower (Kd.S_new' ho1 (Kd.S_lt z32_)) (below_size z3_)) (blk_below (g := gb101) (o := .cells #[.string a0_0, .slice A0_1 l0_1.length c0_1, .int .i64 a0_2, .slice A0_3 l0_3.length c0_3] 25 (0, 0)) z2_ hb) (blk_below (g := gb102) (o := .cells #[.int .i64 a2_0, .int .i64 a2_1, .string a2_2] 28 (0, 0)) z5_ hb) (below_step z3_ hb); clear HO109 HO113 HO116 HO122 BK101 BK102 HB; obtain ⟨HO109, HO113, HO116, HO122, HO127, HO131, BK101, BK102, HB⟩ := n_; (try clear hb); (try clear hb2); (try clear hk); (try clear hi); (try clear ho0); (try clear ho1)) | ((with_reducible refine gate_dst (N := 10) rfl ?_); refine bx_ 10 (cs := #[.string (⟨#[]⟩ : ByteArray), .slice none 0 0, .int .i64 0, .slice none 0 0]) (t := 38) (h_ := ?_); intro gb132 hg w56 hbox hb; have n0_ := ak_ (Kd.R_below z31_ hb); have n1_ := ak_ (Kd.S_below z32_ hb); have n2_ := ak_ (Kd.R_below z33_ hb); have n3_ := ak_ (Kd.R_below z37_ hb); have n4_ := ak_ (Kd.R_below z49_ hb); have n5_ := ak_ (Kd.S_below z50_ hb); have n6_ := ak_ (blk_below (g := gb101) (o := .cells #[.string a0_0, .slice A0_1 l0_1.length c0_1, .int .i64 a0_2, .slice A0_3 l0_3.length c0_3] 25 (0, 0)) z2_ hb); have n7_ := ak_ (blk_below (g := gb102) (o := .cells #[.int .i64 a2_0, .int .i64 a2_1, .string a2_2] 28 (0, 0)) z5_ hb); have n8_ := ak_ (below_step z3_ hb); have n9_ := ak_ (hbox); have n10_ := ak_ ((gs_ w hg (below_size z3_))); have n11_ := ak_ ((gs_ w hg (below_size z3_))); have n12_ := ak_ ((z27_ : gb101 ≠ gb132)); have n13_ := ak_ ((z28_ : gb132 ≠ gb101)); have n14_ := ak_ ((by rw [hg]; exact Nat.ne_of_lt (blk_lt (g := gb102) (o := .cells #[.int .i64 a2_0, .int .i64 a2_1, .string a2_2] 28 (0, 0)) z5_) : gb102 ≠ gb132)); have n15_ := ak_ ((by rw [hg]; exact Nat.ne_of_gt (blk_lt (g := gb102) (o := .cells #[.int .i64 a2_0, .int .i64 a2_1, .string a2_2] 28 (0, 0)) z5_) : gb132 ≠ gb102)); clear HO109; clear HO113; clear HO116; clear HO122; clear HO127; clear HO131; clear BK101; clear BK102; clear HB; have HO109 := n0_; have HO113 := n1_; have HO116 := n2_; have HO122 := n3_; have HO127 := n4_; have HO131 := n5_; have BK101 := n6_; have BK102 := n7_; have HB := n8_; have BK132 := n9_; have GW132 := n10_; have GE132 := n11_; have NB101_132 := n12_; have NB132_101 := n13_; have NB102_132 := n14_; have NB132_102 := n15_; clear n0_ n1_ n2_ n3_ n4_ n5_ n6_ n7_ n8_ n9_ n10_ n11_ n12_ n13_ n14_ n15_; clear hb hbox hg; have hnb57 := NB132_101.out; have hnc57 := NB101_132.out; have hnb58 := NB132_102.out; have hnc58 := NB102_132.out; obtain ⟨hcz59_0, hcz59_1, hcz59_2, hcz59_3, hfz59_0, hfz59_1, hfz59_2, hfz59_3⟩ := bcf4 BK132.out; obtain ⟨Ao60, co60, eo60⟩ := Kd.R_slice HO127.out; subst eo60; obtain ⟨Ao61, co61, eo61⟩ := Kd.S_slice HO131.out; subst eo61) | ((with_reducible refine gate_callee (f := 9) rfl ?_); refine goesL_ (some 47) rfl rfl Tryd.func9 (by kernel_rfl) rfl #[.slice A1 l1.length c1] rfl z4_ ?_; (with_reducible refine (laws_toValueS.calls k _ _ l1 t133 _ ?side1 ?side2 A34.out).mono ?_); (case side1 => exact Kd.C_below HR1.out z11_); (case side2 => exact HC1.out); rintro e w62 ⟨v134, rfl, ho0, hb⟩; refine ⟨_, rfl, ?_⟩; have n_ := a11_ (Kd.R_below (by (with_reducible repeat (first | apply Kd.R_alloc | apply Kd.R_drewN | apply Kd.R_drew)); exact (Kd.R_mono (Kd.R_far (p := ⟨gb132, 3, none⟩) (Kd.R_far (p := ⟨gb132, 2, none⟩) (Kd.R_far (p := ⟨gb132, 1, none⟩) (Kd.R_far (p := ⟨gb132, 0, none⟩) (Kd.R_types HO109.out BK132.out (by decide)) (fun _ hk => hk.2) (.string t124)) (fun _ hk => hk.2) (.slice Ao60 t125.length co60)) (fun _ hk => hk.2) (.int .i64 t128)) (fun _ hk => hk.2) (.slice Ao61 t129.length co61)) (fun _ h_ => h_.1))) hb) (Kd.S_below (by (with_reducible repeat (first | apply Kd.S_alloc | apply Kd.S_drewN | apply Kd.S_drew)); exact (Kd.S_mono (Kd.S_far (p := ⟨gb132, 3, none⟩) (Kd.S_far (p := ⟨gb132, 2, none⟩) (Kd.S_far (p := ⟨gb132, 1, none⟩) (Kd.S_far (p := ⟨gb132, 0, none⟩) (Kd.S_types HO113.out BK132.out (by decide)) (fun _ hk => hk.2) (.string t124)) (fun _ hk => hk.2) (.slice Ao60 t125.length co60)) (fun _ hk => hk.2) (.int .i64 t128)) (fun _ hk => hk.2) (.slice Ao61 t129.length co61)) (fun _ h_ => h_.1))) hb) (Kd.R_elder' z42_ (Kd.R_base ho0) hb) (Kd.R_elder' z43_ (Kd.R_base ho0) hb) (Kd.R_below (by (with_reducible repeat (first | apply Kd.R_alloc | apply Kd.R_drewN | apply Kd.R_drew)); exact (Kd.R_mono (Kd.R_far (p := ⟨gb132, 3, none⟩) (Kd.R_far (p := ⟨gb132, 2, none⟩) (Kd.R_far (p := ⟨gb132, 1, none⟩) (Kd.R_far (p := ⟨gb132, 0, none⟩) (Kd.R_types HO127.out BK132.out (by decide)) (fun _ hk => hk.2) (.string t124)) (fun _ hk => hk.2) (.slice Ao60 t125.length co60)) (fun _ hk => hk.2) (.int .i64 t128)) (fun _ hk => hk.2) (.slice Ao61 t129.length co61)) (fun _ h_ => h_.1))) hb) (Kd.S_below (by (with_reducible repeat (first | apply Kd.S_alloc | apply Kd.S_drewN | apply Kd.S_drew)); exact (Kd.S_mono (Kd.S_far (p := ⟨gb132, 3, none⟩) (Kd.S_far (p := ⟨gb132, 2, none⟩) (Kd.S_far (p := ⟨gb132, 1, none⟩) (Kd.S_far (p := ⟨gb132, 0, none⟩) (Kd.S_types HO131.out BK132.out (by decide)) (fun _ hk => hk.2) (.string t124)) (fun _ hk => hk.2) (.slice Ao60 t125.length co60)) (fun _ hk => hk.2) (.int .i64 t128)) (fun _ hk => hk.2) (.slice Ao61 t129.length co61)) (fun _ h_ => h_.1))) hb) (Kd.R_lower (Kd.R_new' (Kd.R_new' ho0 (Kd.R_lt z42_)) (Kd.R_lt z43_)) (below_size z11_)) (blk_below (g := gb101) (o := .cells #[.string a0_0, .slice A0_1 l0_1.length c0_1, .int .i64 a0_2, .slice A0_3 l0_3.length c0_3] 25 (0, 0)) (by (with_reducible repeat (first | refine blk_drewN ?_ _ | refine blk_drew ?_ | refine blk_alloc ?_ _)); refine blk_far ?_ NB101_132.out _; (with_reducible repeat (first | refine blk_drewN ?_ _ | refine blk_drew ?_ | refine blk_alloc ?_ _)); refine blk_far ?_ NB101_132.out _; (with_reducible repeat (first | refine blk_drewN ?_ _ | refine blk_drew ?_ | refine blk_alloc ?_ _)); refine blk_far ?_ NB101_132.out _; (with_reducible repeat (first | refine blk_drewN ?_ _ | refine blk_drew ?_ | refine blk_alloc ?_ _)); refine blk_far ?_ NB101_132.out _; (with_reducible repeat (first | refine blk_drewN ?_ _ | refine blk_drew ?_ | refine blk_alloc ?_ _)); exact BK101.out) hb) (blk_below (g := gb102) (o := .cells #[.int .i64 a2_0, .int .i64 a2_1, .string a2_2] 28 (0, 0)) (by (with_reducible repeat (first | refine blk_drewN ?_ _ | refine blk_drew ?_ | refine blk_alloc ?_ _)); refine blk_far ?_ NB102_132.out _; (with_reducible repeat (first | refine blk_drewN ?_ _ | refine blk_drew ?_ | refine blk_alloc ?_ _)); refine blk_far ?_ NB102_132.out _; (with_reducible repeat (first | refine blk_drewN ?_ _ | refine blk_drew ?_ | refine blk_alloc ?_ _)); refine blk_far ?_ NB102_132.out _; (with_reducible repeat (first | refine blk_drewN ?_ _ | refine blk_drew ?_ | refine blk_alloc ?_ _)); refine blk_far ?_ NB102_132.out _; (with_reducible repeat (first | refine blk_drewN ?_ _ | refine blk_drew ?_ | refine blk_alloc ?_ _)); exact BK102.out) hb) (blk_below (g := gb132) (o := .cells #[.string t124, .slice Ao60 t125.length co60, .int .i64 t128, .slice Ao61 t129.length co61] 38 (0, 0)) (by (with_reducible repeat (first | refine blk_drewN ?_ _ | refine blk_drew ?_ | refine blk_alloc ?_ _)); refine blk_put (cs := #[.string t124, .slice Ao60 t125.length co60, .int .i64 t128, .slice none 0 0]) ?_ 3 _ rfl; (with_reducible repeat (first | refine blk_drewN ?_ _ | refine blk_drew ?_ | refine blk_alloc ?_ _)); refine blk_put (cs := #[.string t124, .slice Ao60 t125.length co60, .int .i64 0, .slice none 0 0]) ?_ 2 _ rfl; (with_reducible repeat (first | refine blk_drewN ?_ _ | refine blk_drew ?_ | refine blk_alloc ?_ _)); refine blk_put (cs := #[.string t124, .slice none 0 0, .int .i64 0, .slice none 0 0]) ?_ 1 _ rfl; (with_reducible repeat (first | refine blk_drewN ?_ _ | refine blk_drew ?_ | refine blk_alloc ?_ _)); refine blk_put (cs := #[.string (⟨#[]⟩ : ByteArray), .slice none 0 0, .int .i64 0, .slice none 0 0]) ?_ 0 _ rfl; (with_reducible repeat (first | refine blk_drewN ?_ _ | refine blk_drew ?_ | refine blk_alloc ?_ _)); exact BK132.out) hb) (below_step z11_ hb); clear HO109 HO113 HO116 HO122 HO127 HO131 BK101 BK102 BK132 HB; obtain ⟨HO109, HO113, HO116, HO122, HO127, HO131, HO135, BK101, BK102, BK132, HB⟩ := n_; (try clear hb); (try clear hb2); (try clear hk); (try clear hi); (try clear ho0)))
  have n_ := a11_ (Kd.R_drew HO109.out) (Kd.S_drew HO113.out) (Kd.R_drew HO116.out) (Kd.R_drew HO122.out) (Kd.R_drew HO127.out) (Kd.S_drew HO131.out) (Kd.R_drew HO135.out) (blk_drew BK101.out) (blk_drew BK102.out) (blk_drew BK132.out) (below_drew1 HB.out)
  clear HO109 HO113 HO116 HO122 HO127 HO131 HO135 BK101 BK102 BK132 HB
  obtain ⟨HO109, HO113, HO116, HO122, HO127, HO131, HO135, BK101, BK102, BK132, HB⟩ := n_
  refine start_ (n := 10) (S := fun w' => w'.cell? ⟨gb132, 0, none⟩ = some (.string t124) ∧ w'.cell? ⟨gb132, 1, none⟩ = some (.slice Ao60 t125.length co60) ∧ w'.cell? ⟨gb132, 2, none⟩ = some (.int .i64 t128) ∧ w'.cell? ⟨gb132, 3, none⟩ = some (.slice Ao61 t129.length co61) ∧ w'.cell? ⟨gb102, 0, none⟩ = some (.int .i64 a2_0) ∧ w'.cell? ⟨gb102, 1, none⟩ = some (.int .i64 a2_1) ∧ w'.cell? ⟨gb102, 2, none⟩ = some (.string a2_2)) (ds := []) #[false, false, false, false, false, false, false, false, false, false] (by kernel_rfl) rfl rfl ⟨(blk_cell BK132.out 0).trans rfl, (blk_cell BK132.out 1).trans rfl, (blk_cell BK132.out 2).trans rfl, (blk_cell BK132.out 3).trans rfl, (blk_cell BK102.out 0).trans rfl, (blk_cell BK102.out 1).trans rfl, (blk_cell BK102.out 2).trans rfl⟩ (fun hHeld => ?_); refine with_tabW laws_FnExactWidenRow.tab14 laws_FnExactWidenRow.bits14 (fun HT_ HW_ => ?_)
  generalize w62.drew = w63 at HO109 HO113 HO116 HO122 HO127 HO131 HO135 BK101 BK102 BK132 HB hHeld ⊢
  refine pu_ 1 (N := some 50) #[false, true, false, false, false, false, false, false, false, false] HT_.out (h_ := ?_)
  refine tk_ 0 (N := some 49) #[true, true, false, false, false, false, false, false, false, false] HT_.out HW_.out hHeld (hy := by rintro w' ⟨s0, s1, s2, s3, s4, s5, s6⟩; go_simp; with_reducible rfl) (h_ := ?_)
  refine tk_ 2 (N := some 51) #[true, true, true, false, false, false, false, false, false, false] HT_.out HW_.out hHeld (hy := by rintro w' ⟨s0, s1, s2, s3, s4, s5, s6⟩; go_simp; with_reducible rfl) (h_ := ?_)
  refine one_ (i := 3) (N := some 52) #[true, true, true, true, false, false, false, false, false, false] rfl rfl (one_of HT_.out (by kernel_rfl)) (by decide) (fun K hK => ?_)
  refine goes_ Tryd.func10 (by kernel_rfl) rfl #[.agg #[.int .i64 a2_0, .int .i64 a2_1, .string a2_2]] (by rfl) rfl rfl z4_ ?_
  with_reducible refine (laws_toValue.calls a2_0 a2_1 a2_2 t136 t137 t138 _ A35.out).mono ?_
  rintro e w64 ⟨rfl, hb⟩
  refine ⟨_, rfl, ?_⟩
  have n_ := a11_ (Kd.R_below z31_ hb) (Kd.S_below z32_ hb) (Kd.R_below z33_ hb) (Kd.R_below z37_ hb) (Kd.R_below z49_ hb) (Kd.S_below z50_ hb) (Kd.R_below z51_ hb) (blk_below (g := gb101) (o := .cells #[.string a0_0, .slice A0_1 l0_1.length c0_1, .int .i64 a0_2, .slice A0_3 l0_3.length c0_3] 25 (0, 0)) z2_ hb) (blk_below (g := gb102) (o := .cells #[.int .i64 a2_0, .int .i64 a2_1, .string a2_2] 28 (0, 0)) z5_ hb) (blk_below (g := gb132) (o := .cells #[.string t124, .slice Ao60 t125.length co60, .int .i64 t128, .slice Ao61 t129.length co61] 38 (0, 0)) z24_ hb) (below_step z11_ hb)
  clear HO109 HO113 HO116 HO122 HO127 HO131 HO135 BK101 BK102 BK132 HB
  obtain ⟨HO109, HO113, HO116, HO122, HO127, HO131, HO135, BK101, BK102, BK132, HB⟩ := n_
  (try clear hb)
  (try clear hb2)
  (try clear hk)
  (try clear hi)
  obtain ⟨Ao65, co65, eo65⟩ := Kd.R_slice HO135.out
  (first | subst eo65 | (injection eo65 with f1_ f2_ f3_; have f4_ := f1_.symm; have f5_ := f3_.symm; clear f1_ f2_ f3_; subst f4_; subst f5_))
  refine hK.out _ _ ⟨(blk_cell BK132.out 0).trans rfl, (blk_cell BK132.out 1).trans rfl, (blk_cell BK132.out 2).trans rfl, (blk_cell BK132.out 3).trans rfl, (blk_cell BK102.out 0).trans rfl, (blk_cell BK102.out 1).trans rfl, (blk_cell BK102.out 2).trans rfl⟩ (fun hHeld => ?_)
  clear hK K
  refine norm_ (a' := ?_) ?_ ?_
  rotate_left
  · show Act.put _ (some 52) _ = _
    simp only [Act.put, List.setIfInBounds_toArray, List.set_cons_zero, List.set_cons_succ, i64_w, i32_w]
    rfl
  refine one_ (i := 4) (N := some 53) #[true, true, true, true, true, false, false, false, false, false] rfl rfl (one_of HT_.out (by kernel_rfl)) (by decide) (fun K hK => ?_)
  refine goes_ Tryd.func11 (by kernel_rfl) rfl #[.agg #[.string t124, .slice Ao60 t125.length co60, .int .i64 t128, .slice Ao61 t129.length co61], .slice Ao65 t133.length co65, .agg #[.int .i64 t136, .int .i64 t137, .string t138]] (by rfl) rfl rfl z4_ ?_
  with_reducible refine (impl_WidenRow.calls k t124 _ _ t125 t128 _ _ t129 _ _ t133 t136 t137 t138 t139 t142 _ ?side1 ?side2 ?side3 ?side4 ?side5 ?side6 A36.out).mono ?_
  (case side1 => repeat (first | exact (Kd.R_reads' HO127.out).2.2 | (with_reducible refine Kd.C_alloc ?_ _) | (with_reducible refine Kd.C_drewN ?_ _) | (with_reducible refine Kd.C_drew ?_)))
  (case side2 => exact (Kd.R_reads' HO127.out).2.1)
  (case side3 => repeat (first | exact (Kd.S_reads' HO131.out).2.2 | (with_reducible refine Kd.C_alloc ?_ _) | (with_reducible refine Kd.C_drewN ?_ _) | (with_reducible refine Kd.C_drew ?_)))
  (case side4 => exact (Kd.S_reads' HO131.out).2.1)
  (case side5 => repeat (first | exact (Kd.R_reads' HO135.out).2.2 | (with_reducible refine Kd.C_alloc ?_ _) | (with_reducible refine Kd.C_drewN ?_ _) | (with_reducible refine Kd.C_drew ?_)))
  (case side6 => exact (Kd.R_reads' HO135.out).2.1)
  rintro e w66 ⟨v140, rfl, ho0, hb⟩
  refine ⟨_, rfl, ?_⟩
  have n_ := a12_ (Kd.R_below z31_ hb) (Kd.S_below z32_ hb) (Kd.R_elder' z33_ (Kd.R_base ho0) hb) (Kd.R_elder' z37_ (Kd.R_base ho0) hb) (Kd.R_below z49_ hb) (Kd.S_below z50_ hb) (Kd.R_elder' z51_ (Kd.R_base ho0) hb) (Kd.R_lower (Kd.R_new' (Kd.R_new' (Kd.R_new' ho0 (Kd.R_lt z33_)) (Kd.R_lt z37_)) (Kd.R_lt z51_)) (below_size z11_)) (blk_below (g := gb101) (o := .cells #[.string a0_0, .slice A0_1 l0_1.length c0_1, .int .i64 a0_2, .slice A0_3 l0_3.length c0_3] 25 (0, 0)) z2_ hb) (blk_below (g := gb102) (o := .cells #[.int .i64 a2_0, .int .i64 a2_1, .string a2_2] 28 (0, 0)) z5_ hb) (blk_below (g := gb132) (o := .cells #[.string t124, .slice Ao60 t125.length co60, .int .i64 t128, .slice Ao61 t129.length co61] 38 (0, 0)) z24_ hb) (below_step z11_ hb)
  clear HO109 HO113 HO116 HO122 HO127 HO131 HO135 BK101 BK102 BK132 HB
  obtain ⟨HO109, HO113, HO116, HO122, HO127, HO131, HO135, HO141, BK101, BK102, BK132, HB⟩ := n_
  (try clear hb)
  (try clear hb2)
  (try clear hk)
  (try clear hi)
  (try clear ho0)
  refine hK.out _ _ ⟨(blk_cell BK132.out 0).trans rfl, (blk_cell BK132.out 1).trans rfl, (blk_cell BK132.out 2).trans rfl, (blk_cell BK132.out 3).trans rfl, (blk_cell BK102.out 0).trans rfl, (blk_cell BK102.out 1).trans rfl, (blk_cell BK102.out 2).trans rfl⟩ (fun hHeld => ?_)
  clear hK K
  refine norm_ (a' := ?_) ?_ ?_
  rotate_left
  · show Act.put _ (some 53) _ = _
    simp only [Act.put, List.setIfInBounds_toArray, List.set_cons_zero, List.set_cons_succ, i64_w, i32_w]
    rfl
  refine pu_ 5 (N := some 48) #[true, true, true, true, true, true, false, false, false, false] HT_.out (h_ := ?_)
  refine pu_ 6 (N := some 54) #[true, true, true, true, true, true, true, false, false, false] HT_.out (h_ := ?_)
  refine pu_ 7 (N := some 55) #[true, true, true, true, true, true, true, true, false, false] HT_.out (h_ := ?_)
  refine pu_ 8 (N := some 12) #[true, true, true, true, true, true, true, true, true, false] HT_.out (h_ := ?_)
  refine pu_ 9 (N := some 13) #[true, true, true, true, true, true, true, true, true, true] HT_.out (h_ := ?_)
  refine done_ (done_of HT_.out (by kernel_rfl)) ?_
  go_upto_region 15 with (fail)
  go_cut [64] (fun v64 wc => ∃ (kq : Nat) (x64_36 : Bool), v64 = .bool x64_36 ∧ Aside0 (laws_FnExactWidenRow.j0 kq l1 t120 t123 t133 t139 t142 x64_36 a0_0 l0_1 a0_2 l0_3 a2_0 a2_1 a2_2 t124 t125 t128 t129 = some r) ∧ Aside0 (kq ≤ k) ∧ Aside0 (Kd.R k41 41 wc w.heap.size (fun k_ => some k_ ≠ ((.slice Ao65 t133.length co65) : Value).ownBlock ∧ some k_ ≠ (v140 : Value).ownBlock) v121 t120) ∧ Aside0 (Kd.R k41 41 wc w.heap.size (fun k_ => some k_ ≠ (v121 : Value).ownBlock ∧ some k_ ≠ (v140 : Value).ownBlock) (.slice Ao65 t133.length co65) t133) ∧ Aside0 (Kd.R k41 41 wc w.heap.size (fun k_ => some k_ ≠ (v121 : Value).ownBlock ∧ some k_ ≠ ((.slice Ao65 t133.length co65) : Value).ownBlock) v140 t139) ∧ Aside0 (Kd.R k72 72 wc w.heap.size (fun _ => True) (.slice Ao60 t125.length co60) t125) ∧ Aside0 (Kd.S k74 74 wc w.heap.size (fun _ => True) (.slice Ao61 t129.length co61) t129) ∧ Aside0 (wc.heap[gb101]? = some (.cells #[.string a0_0, (.slice A0_1 l0_1.length c0_1), .int .i64 a0_2, (.slice A0_3 l0_3.length c0_3)] 25 (0, 0))) ∧ Aside0 (wc.heap[gb102]? = some (.cells #[.int .i64 a2_0, .int .i64 a2_1, .string a2_2] 28 (0, 0))) ∧ Aside0 (wc.heap[gb132]? = some (.cells #[.string t124, (.slice Ao60 t125.length co60), .int .i64 t128, (.slice Ao61 t129.length co61)] 38 (0, 0))) ∧ Aside0 (Below w.heap.size w wc))
  case first =>
    have H := HC37.out
    clear HC37
    replace H := Option.bind_eq_some_iff.mp H
    obtain ⟨t143, A670, H⟩ := H
    have A67 := ak_ A670
    clear A670
    by_cases c68 : t143 = true
    · subst c68
      have H1 : (laws_FnExactWidenRow.j0 k l1 t120 t123 t133 t139 t142 (t142 != t123) a0_0 l0_1 a0_2 l0_3 a2_0 a2_1 a2_2 t124 t125 t128 t129) = some r := by rw [if_pos rfl] at H; exact H
      clear H
      have H := H1
      clear H1
      have H' := ak_ H
      clear H
      obtain ⟨Ao69, co69, eo69⟩ := Kd.R_slice HO141.out
      subst eo69
      obtain ⟨Ao70, co70, eo70⟩ := Kd.R_slice HO122.out
      subst eo70
      go_wp2_with (first | ((with_reducible refine gate_callee (f := 12) rfl ?_); refine goesL_ (some 58) rfl rfl Tryd.func12 (by kernel_rfl) rfl #[.slice Ao69 t139.length co69, .slice Ao70 t120.length co70] rfl z4_ ?_; (with_reducible refine (laws_eqValueS.calls k _ _ t139 _ _ t120 true _ ?side1 ?side2 ?side3 ?side4 A67.out).mono ?_); (case side1 => repeat (first | exact (Kd.R_reads' HO141.out).2.2 | (with_reducible refine Kd.C_alloc ?_ _) | (with_reducible refine Kd.C_drewN ?_ _) | (with_reducible refine Kd.C_drew ?_))); (case side2 => exact (Kd.R_reads' HO141.out).2.1); (case side3 => repeat (first | exact (Kd.R_reads' HO122.out).2.2 | (with_reducible refine Kd.C_alloc ?_ _) | (with_reducible refine Kd.C_drewN ?_ _) | (with_reducible refine Kd.C_drew ?_))); (case side4 => exact (Kd.R_reads' HO122.out).2.1); rintro e w71 ⟨rfl, hb⟩; refine ⟨_, rfl, ?_⟩; have n_ := a12_ (Kd.R_below z31_ hb) (Kd.S_below z32_ hb) (Kd.R_below z33_ hb) (Kd.R_below z37_ hb) (Kd.R_below z49_ hb) (Kd.S_below z50_ hb) (Kd.R_below z51_ hb) (Kd.R_below (by (with_reducible repeat (first | apply Kd.R_alloc | apply Kd.R_drewN | apply Kd.R_drew)); exact HO141.out) hb) (blk_below (g := gb101) (o := .cells #[.string a0_0, .slice A0_1 l0_1.length c0_1, .int .i64 a0_2, .slice A0_3 l0_3.length c0_3] 25 (0, 0)) z2_ hb) (blk_below (g := gb102) (o := .cells #[.int .i64 a2_0, .int .i64 a2_1, .string a2_2] 28 (0, 0)) z5_ hb) (blk_below (g := gb132) (o := .cells #[.string t124, .slice Ao60 t125.length co60, .int .i64 t128, .slice Ao61 t129.length co61] 38 (0, 0)) z24_ hb) (below_step z11_ hb); clear HO109 HO113 HO116 HO122 HO127 HO131 HO135 HO141 BK101 BK102 BK132 HB; obtain ⟨HO109, HO113, HO116, HO122, HO127, HO131, HO135, HO141, BK101, BK102, BK132, HB⟩ := n_; (try clear hb); (try clear hb2); (try clear hk); (try clear hi)))
      go_meet
      case rel => exact ⟨_, ((t142 != t123)), z9_, H', ⟨by first | omega | exact Nat.le_refl _⟩, ⟨by (with_reducible repeat (first | apply Kd.R_alloc | apply Kd.R_drewN | apply Kd.R_drew)); exact Kd.R_mono HO122.out (fun _ hk => ⟨hk.1.2, hk.2⟩)⟩, ⟨by (with_reducible repeat (first | apply Kd.R_alloc | apply Kd.R_drewN | apply Kd.R_drew)); exact Kd.R_mono HO135.out (fun _ hk => ⟨hk.1.2, hk.2⟩)⟩, ⟨by (with_reducible repeat (first | apply Kd.R_alloc | apply Kd.R_drewN | apply Kd.R_drew)); exact Kd.R_mono HO141.out (fun _ hk => ⟨hk.1.2, hk.2⟩)⟩, ⟨by (with_reducible repeat (first | apply Kd.R_alloc | apply Kd.R_drewN | apply Kd.R_drew)); exact Kd.R_mono HO127.out (fun _ hk => trivial)⟩, ⟨by (with_reducible repeat (first | apply Kd.S_alloc | apply Kd.S_drewN | apply Kd.S_drew)); exact Kd.S_mono HO131.out (fun _ hk => trivial)⟩, ⟨z2_⟩, ⟨z5_⟩, ⟨z24_⟩, ⟨z11_⟩⟩
    replace c68 := Bool.eq_false_iff.mpr c68
    subst c68
    have H1 : (laws_FnExactWidenRow.j0 k l1 t120 t123 t133 t139 t142 true a0_0 l0_1 a0_2 l0_3 a2_0 a2_1 a2_2 t124 t125 t128 t129) = some r := by rw [if_neg (show ¬ (false = true) by decide)] at H; exact H
    clear H
    have H := H1
    clear H1
    have H' := ak_ H
    clear H
    obtain ⟨Ao72, co72, eo72⟩ := Kd.R_slice HO141.out
    subst eo72
    obtain ⟨Ao73, co73, eo73⟩ := Kd.R_slice HO122.out
    subst eo73
    go_wp2_with (first | ((with_reducible refine gate_callee (f := 12) rfl ?_); refine goesL_ (some 58) rfl rfl Tryd.func12 (by kernel_rfl) rfl #[.slice Ao72 t139.length co72, .slice Ao73 t120.length co73] rfl z4_ ?_; (with_reducible refine (laws_eqValueS.calls k _ _ t139 _ _ t120 false _ ?side1 ?side2 ?side3 ?side4 A67.out).mono ?_); (case side1 => repeat (first | exact (Kd.R_reads' HO141.out).2.2 | (with_reducible refine Kd.C_alloc ?_ _) | (with_reducible refine Kd.C_drewN ?_ _) | (with_reducible refine Kd.C_drew ?_))); (case side2 => exact (Kd.R_reads' HO141.out).2.1); (case side3 => repeat (first | exact (Kd.R_reads' HO122.out).2.2 | (with_reducible refine Kd.C_alloc ?_ _) | (with_reducible refine Kd.C_drewN ?_ _) | (with_reducible refine Kd.C_drew ?_))); (case side4 => exact (Kd.R_reads' HO122.out).2.1); rintro e w74 ⟨rfl, hb⟩; refine ⟨_, rfl, ?_⟩; have n_ := a12_ (Kd.R_below z31_ hb) (Kd.S_below z32_ hb) (Kd.R_below z33_ hb) (Kd.R_below z37_ hb) (Kd.R_below z49_ hb) (Kd.S_below z50_ hb) (Kd.R_below z51_ hb) (Kd.R_below (by (with_reducible repeat (first | apply Kd.R_alloc | apply Kd.R_drewN | apply Kd.R_drew)); exact HO141.out) hb) (blk_below (g := gb101) (o := .cells #[.string a0_0, .slice A0_1 l0_1.length c0_1, .int .i64 a0_2, .slice A0_3 l0_3.length c0_3] 25 (0, 0)) z2_ hb) (blk_below (g := gb102) (o := .cells #[.int .i64 a2_0, .int .i64 a2_1, .string a2_2] 28 (0, 0)) z5_ hb) (blk_below (g := gb132) (o := .cells #[.string t124, .slice Ao60 t125.length co60, .int .i64 t128, .slice Ao61 t129.length co61] 38 (0, 0)) z24_ hb) (below_step z11_ hb); clear HO109 HO113 HO116 HO122 HO127 HO131 HO135 HO141 BK101 BK102 BK132 HB; obtain ⟨HO109, HO113, HO116, HO122, HO127, HO131, HO135, HO141, BK101, BK102, BK132, HB⟩ := n_; (try clear hb); (try clear hb2); (try clear hk); (try clear hi)))
    go_meet
    case rel => exact ⟨_, (true), z9_, H', ⟨by first | omega | exact Nat.le_refl _⟩, ⟨by (with_reducible repeat (first | apply Kd.R_alloc | apply Kd.R_drewN | apply Kd.R_drew)); exact Kd.R_mono HO122.out (fun _ hk => ⟨hk.1.2, hk.2⟩)⟩, ⟨by (with_reducible repeat (first | apply Kd.R_alloc | apply Kd.R_drewN | apply Kd.R_drew)); exact Kd.R_mono HO135.out (fun _ hk => ⟨hk.1.2, hk.2⟩)⟩, ⟨by (with_reducible repeat (first | apply Kd.R_alloc | apply Kd.R_drewN | apply Kd.R_drew)); exact Kd.R_mono HO141.out (fun _ hk => ⟨hk.1.2, hk.2⟩)⟩, ⟨by (with_reducible repeat (first | apply Kd.R_alloc | apply Kd.R_drewN | apply Kd.R_drew)); exact Kd.R_mono HO127.out (fun _ hk => trivial)⟩, ⟨by (with_reducible repeat (first | apply Kd.S_alloc | apply Kd.S_drewN | apply Kd.S_drew)); exact Kd.S_mono HO131.out (fun _ hk => trivial)⟩, ⟨z2_⟩, ⟨z5_⟩, ⟨z24_⟩, ⟨z11_⟩⟩
  case rest =>
    clear HC37
    try clear c1
    try clear c2
    try clear p2
    try clear c3
    try clear c4
    try clear c5
    try clear c5b0
    try clear c6
    try clear c7
    try clear c8
    try clear c9
    try clear c10
    try clear c11
    try clear c12
    try clear c12b0
    try clear c15
    try clear c20
    try clear c20b0
    try clear c23
    try clear c40
    try clear c57
    try clear c58
    try clear c68
    try clear hcz16_0
    try clear hcz16_1
    try clear hcz16_2
    try clear hcz16_3
    try clear hcz24_0
    try clear hcz24_1
    try clear hcz24_2
    try clear hcz24_3
    try clear hcz27_0
    try clear hcz27_1
    try clear hcz27_2
    try clear hcz41_0
    try clear hcz41_1
    try clear hcz41_2
    try clear hcz41_3
    try clear hcz44_0
    try clear hcz44_1
    try clear hcz44_2
    try clear hcz54_0
    try clear hcz54_1
    try clear hcz54_2
    try clear hcz54_3
    try clear hcz59_0
    try clear hcz59_1
    try clear hcz59_2
    try clear hcz59_3
    try clear hcz9_0
    try clear hcz9_1
    try clear hcz9_2
    try clear hcz9_3
    try clear hfz16_0
    try clear hfz16_1
    try clear hfz16_2
    try clear hfz16_3
    try clear hfz24_0
    try clear hfz24_1
    try clear hfz24_2
    try clear hfz24_3
    try clear hfz27_0
    try clear hfz27_1
    try clear hfz27_2
    try clear hfz41_0
    try clear hfz41_1
    try clear hfz41_2
    try clear hfz41_3
    try clear hfz44_0
    try clear hfz44_1
    try clear hfz44_2
    try clear hfz54_0
    try clear hfz54_1
    try clear hfz54_2
    try clear hfz54_3
    try clear hfz59_0
    try clear hfz59_1
    try clear hfz59_2
    try clear hfz59_3
    try clear hfz9_0
    try clear hfz9_1
    try clear hfz9_2
    try clear hfz9_3
    obtain ⟨kq, x64_36, rfl, HA, HJ36, HO_8, HO_11, HO_12, HO_133001, HO_133003, BK101, BK102, BK132, HB⟩ := hcut
    cases kq with
    | zero => exact absurd HA.out (by simp [laws_FnExactWidenRow.j0])
    | succ kj36 =>
      have H := HA.out
      clear HA
      simp only [laws_FnExactWidenRow.j0] at H
      by_cases c75 : x64_36 = true
      · subst c75
        have H1 : (none) = some r := by rw [if_pos rfl] at H; exact H
        clear H
        have H := H1
        clear H1
        exact absurd H (by simp)
      replace c75 := Bool.eq_false_iff.mpr c75
      subst c75
      have H1 : ((laws_toTable.f kj36 a0_0 l0_1 a0_2 l0_3).bind fun bt144 => ((laws_eqTable.f kj36 t124 t125 t128 t129 bt144.1 bt144.2.1 bt144.2.2.1 bt144.2.2.2).bind fun t152 => (if t152 = true then ((laws_toValueS.f kj36 l1).bind fun t153 => ((laws_eqValueS.f kj36 t133 t153).bind fun t156 => (if t156 = true then ((laws_markTable.f kj36 t124 t125 t128 t129 1).bind fun t157 => ((laws_markValueS.f kj36 t133 t157).bind fun bt158 => (if bt158.1 < 0 then (laws_FnExactWidenRow.j1 kj36 l1 t120 t123 t139 true a0_0 l0_1 a0_2 l0_3 a2_0 a2_1 a2_2) else ((laws_eqValueS.f kj36 t139 t120).bind fun t160 => (if t160 = true then (laws_FnExactWidenRow.j1 kj36 l1 t120 t123 t139 (t142 != t123) a0_0 l0_1 a0_2 l0_3 a2_0 a2_1 a2_2) else (laws_FnExactWidenRow.j1 kj36 l1 t120 t123 t139 true a0_0 l0_1 a0_2 l0_3 a2_0 a2_1 a2_2)))))) else (none)))) else (none)))) = some r := by rw [if_neg (show ¬ (false = true) by decide)] at H; exact H
      clear H
      have H := H1
      clear H1
      replace H := Option.bind_eq_some_iff.mp H
      obtain ⟨⟨t144, t145, t148, t149⟩, A760, H⟩ := H
      replace H : ((laws_eqTable.f kj36 t124 t125 t128 t129 t144 t145 t148 t149).bind fun t152 => (if t152 = true then ((laws_toValueS.f kj36 l1).bind fun t153 => ((laws_eqValueS.f kj36 t133 t153).bind fun t156 => (if t156 = true then ((laws_markTable.f kj36 t124 t125 t128 t129 1).bind fun t157 => ((laws_markValueS.f kj36 t133 t157).bind fun bt158 => (if bt158.1 < 0 then (laws_FnExactWidenRow.j1 kj36 l1 t120 t123 t139 true a0_0 l0_1 a0_2 l0_3 a2_0 a2_1 a2_2) else ((laws_eqValueS.f kj36 t139 t120).bind fun t160 => (if t160 = true then (laws_FnExactWidenRow.j1 kj36 l1 t120 t123 t139 (t142 != t123) a0_0 l0_1 a0_2 l0_3 a2_0 a2_1 a2_2) else (laws_FnExactWidenRow.j1 kj36 l1 t120 t123 t139 true a0_0 l0_1 a0_2 l0_3 a2_0 a2_1 a2_2)))))) else (none)))) else (none))) = some r := H
      have A76 := ak_ A760
      clear A760
      replace H := Option.bind_eq_some_iff.mp H
      obtain ⟨t152, A770, H⟩ := H
      have A77 := ak_ A770
      clear A770
      by_cases c78 : t152 = true
      rotate_left
      · replace c78 := Bool.eq_false_iff.mpr c78
        subst c78
        have H1 : (none) = some r := by rw [if_neg (show ¬ (false = true) by decide)] at H; exact H
        clear H
        have H := H1
        clear H1
        exact absurd H (by simp)

      subst c78
      have H1 : ((laws_toValueS.f kj36 l1).bind fun t153 => ((laws_eqValueS.f kj36 t133 t153).bind fun t156 => (if t156 = true then ((laws_markTable.f kj36 t124 t125 t128 t129 1).bind fun t157 => ((laws_markValueS.f kj36 t133 t157).bind fun bt158 => (if bt158.1 < 0 then (laws_FnExactWidenRow.j1 kj36 l1 t120 t123 t139 true a0_0 l0_1 a0_2 l0_3 a2_0 a2_1 a2_2) else ((laws_eqValueS.f kj36 t139 t120).bind fun t160 => (if t160 = true then (laws_FnExactWidenRow.j1 kj36 l1 t120 t123 t139 (t142 != t123) a0_0 l0_1 a0_2 l0_3 a2_0 a2_1 a2_2) else (laws_FnExactWidenRow.j1 kj36 l1 t120 t123 t139 true a0_0 l0_1 a0_2 l0_3 a2_0 a2_1 a2_2)))))) else (none)))) = some r := by rw [if_pos rfl] at H; exact H
      clear H
      have H := H1
      clear H1
      replace H := Option.bind_eq_some_iff.mp H
      obtain ⟨t153, A790, H⟩ := H
      have A79 := ak_ A790
      clear A790
      replace H := Option.bind_eq_some_iff.mp H
      obtain ⟨t156, A800, H⟩ := H
      have A80 := ak_ A800
      clear A800
      by_cases c81 : t156 = true
      rotate_left
      · replace c81 := Bool.eq_false_iff.mpr c81
        subst c81
        have H1 : (none) = some r := by rw [if_neg (show ¬ (false = true) by decide)] at H; exact H
        clear H
        have H := H1
        clear H1
        exact absurd H (by simp)
      subst c81
      have H1 : ((laws_markTable.f kj36 t124 t125 t128 t129 1).bind fun t157 => ((laws_markValueS.f kj36 t133 t157).bind fun bt158 => (if bt158.1 < 0 then (laws_FnExactWidenRow.j1 kj36 l1 t120 t123 t139 true a0_0 l0_1 a0_2 l0_3 a2_0 a2_1 a2_2) else ((laws_eqValueS.f kj36 t139 t120).bind fun t160 => (if t160 = true then (laws_FnExactWidenRow.j1 kj36 l1 t120 t123 t139 (t142 != t123) a0_0 l0_1 a0_2 l0_3 a2_0 a2_1 a2_2) else (laws_FnExactWidenRow.j1 kj36 l1 t120 t123 t139 true a0_0 l0_1 a0_2 l0_3 a2_0 a2_1 a2_2)))))) = some r := by rw [if_pos rfl] at H; exact H
      clear H
      have H := H1
      clear H1
      replace H := Option.bind_eq_some_iff.mp H
      obtain ⟨t157, A820, H⟩ := H
      have A82 := ak_ A820
      clear A820
      replace H := Option.bind_eq_some_iff.mp H
      obtain ⟨⟨t158, t159⟩, A830, H⟩ := H
      replace H : (if t158 < 0 then (laws_FnExactWidenRow.j1 kj36 l1 t120 t123 t139 true a0_0 l0_1 a0_2 l0_3 a2_0 a2_1 a2_2) else ((laws_eqValueS.f kj36 t139 t120).bind fun t160 => (if t160 = true then (laws_FnExactWidenRow.j1 kj36 l1 t120 t123 t139 (t142 != t123) a0_0 l0_1 a0_2 l0_3 a2_0 a2_1 a2_2) else (laws_FnExactWidenRow.j1 kj36 l1 t120 t123 t139 true a0_0 l0_1 a0_2 l0_3 a2_0 a2_1 a2_2)))) = some r := H
      have A83 := ak_ A830
      clear A830
      have HC84 := ak_ H
      clear H
      try go_wp2
      have n_ := a9_ (Kd.R_drew HO_8.out) (Kd.R_drew HO_11.out) (Kd.R_drew HO_12.out) (Kd.R_drew HO_133001.out) (Kd.S_drew HO_133003.out) (blk_drew BK101.out) (blk_drew BK102.out) (blk_drew BK132.out) (below_drew1 HB.out)
      clear HO_8 HO_11 HO_12 HO_133001 HO_133003 BK101 BK102 BK132 HB
      obtain ⟨HO_8, HO_11, HO_12, HO_133001, HO_133003, BK101, BK102, BK132, HB⟩ := n_
      refine start_ (n := 5) (S := fun w' => w'.cell? ⟨gb132, 0, none⟩ = some (.string t124) ∧ w'.cell? ⟨gb132, 1, none⟩ = some (.slice Ao60 t125.length co60) ∧ w'.cell? ⟨gb132, 2, none⟩ = some (.int .i64 t128) ∧ w'.cell? ⟨gb132, 3, none⟩ = some (.slice Ao61 t129.length co61) ∧ w'.cell? ⟨gb101, 0, none⟩ = some (.string a0_0) ∧ w'.cell? ⟨gb101, 1, none⟩ = some (.slice A0_1 l0_1.length c0_1) ∧ w'.cell? ⟨gb101, 2, none⟩ = some (.int .i64 a0_2) ∧ w'.cell? ⟨gb101, 3, none⟩ = some (.slice A0_3 l0_3.length c0_3)) (ds := []) #[false, false, false, false, false] (by kernel_rfl) rfl rfl ⟨(blk_cell BK132.out 0).trans rfl, (blk_cell BK132.out 1).trans rfl, (blk_cell BK132.out 2).trans rfl, (blk_cell BK132.out 3).trans rfl, (blk_cell BK101.out 0).trans rfl, (blk_cell BK101.out 1).trans rfl, (blk_cell BK101.out 2).trans rfl, (blk_cell BK101.out 3).trans rfl⟩ (fun hHeld => ?_)
      generalize wc.drew = w85 at HO_8 HO_11 HO_12 HO_133001 HO_133003 BK101 BK102 BK132 HB hHeld ⊢
      refine take_ (i := 0) (N := some 65) (v := ?_) (a' := ?_) #[true, false, false, false, false] rfl rfl (by kernel_rfl) (fun _ _ _ h => h) (Or.inl ⟨by rfl, ?_⟩) hHeld ?_ ?_
      rotate_left
      · rintro w' ⟨s0, s1, s2, s3, s4, s5, s6, s7⟩
        go_simp
        with_reducible rfl
      rotate_left
      · simp only [Act.put, List.setIfInBounds_toArray, List.set_cons_zero, List.set_cons_succ, i64_w, i32_w]
        rfl
      refine take_ (i := 1) (N := some 66) (v := ?_) (a' := ?_) #[true, true, false, false, false] rfl rfl (by kernel_rfl) (fun _ _ _ h => h) (Or.inl ⟨by rfl, ?_⟩) hHeld ?_ ?_
      rotate_left
      · rintro w' ⟨s0, s1, s2, s3, s4, s5, s6, s7⟩
        go_simp
        with_reducible rfl
      rotate_left
      · simp only [Act.put, List.setIfInBounds_toArray, List.set_cons_zero, List.set_cons_succ, i64_w, i32_w]
        rfl
      refine one_ (i := 2) (N := some 67) #[true, true, true, false, false] rfl rfl (by kernel_rfl) (by decide) (fun K hK => ?_)
      refine goes_ Tryd.func8 (by kernel_rfl) rfl #[.agg #[.string a0_0, .slice A0_1 l0_1.length c0_1, .int .i64 a0_2, .slice A0_3 l0_3.length c0_3]] (by rfl) rfl rfl z4_ ?_
      with_reducible refine (laws_toTable.calls kj36 a0_0 _ _ l0_1 a0_2 _ _ l0_3 t144 t145 t148 t149 _ ?side1 ?side2 ?side3 ?side4 A76.out).mono ?_
      (case side1 => repeat (first | exact (Kd.C_below HR0_1.out HB.out) | (with_reducible refine Kd.C_alloc ?_ _) | (with_reducible refine Kd.C_drewN ?_ _) | (with_reducible refine Kd.C_drew ?_)))
      (case side2 => exact HC0_1.out)
      (case side3 => repeat (first | exact (Kd.C_below HR0_3.out HB.out) | (with_reducible refine Kd.C_alloc ?_ _) | (with_reducible refine Kd.C_drewN ?_ _) | (with_reducible refine Kd.C_drew ?_)))
      (case side4 => exact HC0_3.out)
      rintro e w86 ⟨v146, v150, rfl, ho0, ho1, hb⟩
      refine ⟨_, rfl, ?_⟩
      have n_ := a11_ (Kd.R_below z23_ hb) (Kd.R_below z38_ hb) (Kd.R_below z22_ hb) (Kd.R_elder' z44_ (Kd.R_base ho0) hb) (Kd.S_elder' z45_ (Kd.S_base ho1) hb) (Kd.R_lower (Kd.R_new' ho0 (Kd.R_lt z44_)) (below_size z11_)) (Kd.S_lower (Kd.S_new' ho1 (Kd.S_lt z45_)) (below_size z11_)) (blk_below (g := gb101) (o := .cells #[.string a0_0, .slice A0_1 l0_1.length c0_1, .int .i64 a0_2, .slice A0_3 l0_3.length c0_3] 25 (0, 0)) z2_ hb) (blk_below (g := gb102) (o := .cells #[.int .i64 a2_0, .int .i64 a2_1, .string a2_2] 28 (0, 0)) z5_ hb) (blk_below (g := gb132) (o := .cells #[.string t124, .slice Ao60 t125.length co60, .int .i64 t128, .slice Ao61 t129.length co61] 38 (0, 0)) z24_ hb) (below_step z11_ hb)
      clear HO_8 HO_11 HO_12 HO_133001 HO_133003 BK101 BK102 BK132 HB
      obtain ⟨HO_8, HO_11, HO_12, HO_133001, HO_133003, HO147, HO151, BK101, BK102, BK132, HB⟩ := n_
      (try clear hb)
      (try clear hb2)
      (try clear hk)
      (try clear hi)
      (try clear ho0)
      (try clear ho1)
      obtain ⟨Ao87, co87, eo87⟩ := Kd.R_slice HO147.out
      (first | subst eo87 | (injection eo87 with f1_ f2_ f3_; have f4_ := f1_.symm; have f5_ := f3_.symm; clear f1_ f2_ f3_; subst f4_; subst f5_))
      obtain ⟨Ao88, co88, eo88⟩ := Kd.S_slice HO151.out
      (first | subst eo88 | (injection eo88 with f1_ f2_ f3_; have f4_ := f1_.symm; have f5_ := f3_.symm; clear f1_ f2_ f3_; subst f4_; subst f5_))
      refine hK.out _ _ ⟨(blk_cell BK132.out 0).trans rfl, (blk_cell BK132.out 1).trans rfl, (blk_cell BK132.out 2).trans rfl, (blk_cell BK132.out 3).trans rfl, (blk_cell BK101.out 0).trans rfl, (blk_cell BK101.out 1).trans rfl, (blk_cell BK101.out 2).trans rfl, (blk_cell BK101.out 3).trans rfl⟩ (fun hHeld => ?_)
      clear hK K
      refine norm_ (a' := ?_) ?_ ?_
      rotate_left
      · show Act.put _ (some 67) _ = _
        simp only [Act.put, List.setIfInBounds_toArray, List.set_cons_zero, List.set_cons_succ, i64_w, i32_w]
        rfl
      refine one_ (i := 3) (N := some 68) #[true, true, true, true, false] rfl rfl (by kernel_rfl) (by decide) (fun K hK => ?_)
      refine goes_ Tryd.func13 (by kernel_rfl) rfl #[.agg #[.string t124, .slice Ao60 t125.length co60, .int .i64 t128, .slice Ao61 t129.length co61], .agg #[.string t144, .slice Ao87 t145.length co87, .int .i64 t148, .slice Ao88 t149.length co88]] (by rfl) rfl rfl z4_ ?_
      with_reducible refine (laws_eqTable.calls kj36 t124 _ _ t125 t128 _ _ t129 t144 _ _ t145 t148 _ _ t149 true _ ?side1 ?side2 ?side3 ?side4 ?side5 ?side6 ?side7 ?side8 A77.out).mono ?_
      (case side1 => repeat (first | exact (Kd.R_reads' HO_133001.out).2.2 | (with_reducible refine Kd.C_alloc ?_ _) | (with_reducible refine Kd.C_drewN ?_ _) | (with_reducible refine Kd.C_drew ?_)))
      (case side2 => exact (Kd.R_reads' HO_133001.out).2.1)
      (case side3 => repeat (first | exact (Kd.S_reads' HO_133003.out).2.2 | (with_reducible refine Kd.C_alloc ?_ _) | (with_reducible refine Kd.C_drewN ?_ _) | (with_reducible refine Kd.C_drew ?_)))
      (case side4 => exact (Kd.S_reads' HO_133003.out).2.1)
      (case side5 => repeat (first | exact (Kd.R_reads' HO147.out).2.2 | (with_reducible refine Kd.C_alloc ?_ _) | (with_reducible refine Kd.C_drewN ?_ _) | (with_reducible refine Kd.C_drew ?_)))
      (case side6 => exact (Kd.R_reads' HO147.out).2.1)
      (case side7 => repeat (first | exact (Kd.S_reads' HO151.out).2.2 | (with_reducible refine Kd.C_alloc ?_ _) | (with_reducible refine Kd.C_drewN ?_ _) | (with_reducible refine Kd.C_drew ?_)))
      (case side8 => exact (Kd.S_reads' HO151.out).2.1)
      rintro e w89 ⟨rfl, hb⟩
      refine ⟨_, rfl, ?_⟩
      have n_ := a11_ (Kd.R_below z23_ hb) (Kd.R_below z38_ hb) (Kd.R_below z22_ hb) (Kd.R_below z44_ hb) (Kd.S_below z45_ hb) (Kd.R_below z52_ hb) (Kd.S_below z79_ hb) (blk_below (g := gb101) (o := .cells #[.string a0_0, .slice A0_1 l0_1.length c0_1, .int .i64 a0_2, .slice A0_3 l0_3.length c0_3] 25 (0, 0)) z2_ hb) (blk_below (g := gb102) (o := .cells #[.int .i64 a2_0, .int .i64 a2_1, .string a2_2] 28 (0, 0)) z5_ hb) (blk_below (g := gb132) (o := .cells #[.string t124, .slice Ao60 t125.length co60, .int .i64 t128, .slice Ao61 t129.length co61] 38 (0, 0)) z24_ hb) (below_step z11_ hb)
      clear HO_8 HO_11 HO_12 HO_133001 HO_133003 HO147 HO151 BK101 BK102 BK132 HB
      obtain ⟨HO_8, HO_11, HO_12, HO_133001, HO_133003, HO147, HO151, BK101, BK102, BK132, HB⟩ := n_
      (try clear hb)
      (try clear hb2)
      (try clear hk)
      (try clear hi)
      refine hK.out _ _ ⟨(blk_cell BK132.out 0).trans rfl, (blk_cell BK132.out 1).trans rfl, (blk_cell BK132.out 2).trans rfl, (blk_cell BK132.out 3).trans rfl, (blk_cell BK101.out 0).trans rfl, (blk_cell BK101.out 1).trans rfl, (blk_cell BK101.out 2).trans rfl, (blk_cell BK101.out 3).trans rfl⟩ (fun hHeld => ?_)
      clear hK K
      refine norm_ (a' := ?_) ?_ ?_
      rotate_left
      · show Act.put _ (some 68) _ = _
        simp only [Act.put, List.setIfInBounds_toArray, List.set_cons_zero, List.set_cons_succ, i64_w, i32_w]
        rfl
      refine pure_ (i := 4) (N := some 69) (v := ?_) (a' := ?_) #[true, true, true, true, true] rfl rfl (by kernel_rfl) (fun _ _ _ h => h) (Or.inl ⟨by rfl, ?_⟩) ?_ ?_
      rotate_left
      · intro w'
        go_simp
        with_reducible rfl
      rotate_left
      · simp only [Act.put, List.setIfInBounds_toArray, List.set_cons_zero, List.set_cons_succ, i64_w, i32_w]
        rfl
      refine done_ (by kernel_rfl) ?_
      go_upto_region 24 with (first | ((with_reducible refine gate_callee (f := 9) rfl ?_); refine goesL_ (some 72) rfl rfl Tryd.func9 (by kernel_rfl) rfl #[.slice A1 l1.length c1] rfl z4_ ?_; (with_reducible refine (laws_toValueS.calls kj36 _ _ l1 t153 _ ?side1 ?side2 A79.out).mono ?_); (case side1 => repeat (first | exact (Kd.C_below HR1.out HB.out) | (with_reducible refine Kd.C_alloc ?_ _) | (with_reducible refine Kd.C_drewN ?_ _) | (with_reducible refine Kd.C_drew ?_))); (case side2 => exact HC1.out); rintro e w90 ⟨v154, rfl, ho0, hb⟩; refine ⟨_, rfl, ?_⟩; have n_ := a12_ (Kd.R_elder' z23_ (Kd.R_base ho0) hb) (Kd.R_elder' z38_ (Kd.R_base ho0) hb) (Kd.R_elder' z22_ (Kd.R_base ho0) hb) (Kd.R_below z44_ hb) (Kd.S_below z45_ hb) (Kd.R_below z52_ hb) (Kd.S_below z79_ hb) (Kd.R_lower (Kd.R_new' (Kd.R_new' (Kd.R_new' ho0 (Kd.R_lt z23_)) (Kd.R_lt z38_)) (Kd.R_lt z22_)) (below_size z11_)) (blk_below (g := gb101) (o := .cells #[.string a0_0, .slice A0_1 l0_1.length c0_1, .int .i64 a0_2, .slice A0_3 l0_3.length c0_3] 25 (0, 0)) z2_ hb) (blk_below (g := gb102) (o := .cells #[.int .i64 a2_0, .int .i64 a2_1, .string a2_2] 28 (0, 0)) z5_ hb) (blk_below (g := gb132) (o := .cells #[.string t124, .slice Ao60 t125.length co60, .int .i64 t128, .slice Ao61 t129.length co61] 38 (0, 0)) z24_ hb) (below_step z11_ hb); clear HO_8 HO_11 HO_12 HO_133001 HO_133003 HO147 HO151 BK101 BK102 BK132 HB; obtain ⟨HO_8, HO_11, HO_12, HO_133001, HO_133003, HO147, HO151, HO155, BK101, BK102, BK132, HB⟩ := n_; (try clear hb); (try clear hb2); (try clear hk); (try clear hi); (try clear ho0); obtain ⟨Ao91, co91, eo91⟩ := Kd.R_slice HO155.out; subst eo91) | ((with_reducible refine gate_callee (f := 12) rfl ?_); refine goesL_ (some 73) rfl rfl Tryd.func12 (by kernel_rfl) rfl #[.slice Ao65 t133.length co65, .slice Ao91 t153.length co91] rfl z4_ ?_; (with_reducible refine (laws_eqValueS.calls kj36 _ _ t133 _ _ t153 true _ ?side1 ?side2 ?side3 ?side4 A80.out).mono ?_); (case side1 => repeat (first | exact (Kd.R_reads' HO_11.out).2.2 | (with_reducible refine Kd.C_alloc ?_ _) | (with_reducible refine Kd.C_drewN ?_ _) | (with_reducible refine Kd.C_drew ?_))); (case side2 => exact (Kd.R_reads' HO_11.out).2.1); (case side3 => repeat (first | exact (Kd.R_reads' HO155.out).2.2 | (with_reducible refine Kd.C_alloc ?_ _) | (with_reducible refine Kd.C_drewN ?_ _) | (with_reducible refine Kd.C_drew ?_))); (case side4 => exact (Kd.R_reads' HO155.out).2.1); rintro e w92 ⟨rfl, hb⟩; refine ⟨_, rfl, ?_⟩; have n_ := a12_ (Kd.R_below z23_ hb) (Kd.R_below z38_ hb) (Kd.R_below z22_ hb) (Kd.R_below z44_ hb) (Kd.S_below z45_ hb) (Kd.R_below z52_ hb) (Kd.S_below z79_ hb) (Kd.R_below z80_ hb) (blk_below (g := gb101) (o := .cells #[.string a0_0, .slice A0_1 l0_1.length c0_1, .int .i64 a0_2, .slice A0_3 l0_3.length c0_3] 25 (0, 0)) z2_ hb) (blk_below (g := gb102) (o := .cells #[.int .i64 a2_0, .int .i64 a2_1, .string a2_2] 28 (0, 0)) z5_ hb) (blk_below (g := gb132) (o := .cells #[.string t124, .slice Ao60 t125.length co60, .int .i64 t128, .slice Ao61 t129.length co61] 38 (0, 0)) z24_ hb) (below_step z11_ hb); clear HO_8 HO_11 HO_12 HO_133001 HO_133003 HO147 HO151 HO155 BK101 BK102 BK132 HB; obtain ⟨HO_8, HO_11, HO_12, HO_133001, HO_133003, HO147, HO151, HO155, BK101, BK102, BK132, HB⟩ := n_; (try clear hb); (try clear hb2); (try clear hk); (try clear hi); have hnb93 := NB132_101.out; have hnc93 := NB101_132.out; have hnb94 := NB132_102.out; have hnc94 := NB102_132.out; obtain ⟨hcz95_0, hcz95_1, hcz95_2, hcz95_3, hfz95_0, hfz95_1, hfz95_2, hfz95_3⟩ := bcf4 BK132.out) | ((with_reducible refine gate_callee (f := 14) rfl ?_); refine goesL_ (some 77) rfl rfl Tryd.func14 (by kernel_rfl) rfl #[.agg #[.string t124, .slice Ao60 t125.length co60, .int .i64 t128, .slice Ao61 t129.length co61], .int .i64 1] rfl z4_ ?_; (with_reducible refine (laws_markTable.calls kj36 t124 (fun k_ => some k_ = (.slice Ao60 t125.length co60 : Value).ownBlock) (.slice Ao60 t125.length co60) t125 t128 (fun k_ => ((((((((((True ∧ some k_ ≠ (.slice Ao88 t149.length co88 : Value).ownBlock) ∧ some k_ ≠ (v121 : Value).ownBlock) ∧ some k_ ≠ (.slice Ao65 t133.length co65 : Value).ownBlock) ∧ some k_ ≠ (v140 : Value).ownBlock) ∧ some k_ ≠ (.slice Ao60 t125.length co60 : Value).ownBlock) ∧ some k_ ≠ (.slice Ao87 t145.length co87 : Value).ownBlock) ∧ some k_ ≠ (.slice Ao91 t153.length co91 : Value).ownBlock) ∧ k_ ≠ gb101) ∧ k_ ≠ gb102) ∧ k_ ≠ gb132)) (.slice Ao61 t129.length co61) t129 1 t157 w _ ?side1 ?side2 ?side3 A82.out).mono ?_); (case side1 => repeat (first | (with_reducible first | exact HB.out | apply below_alloc | apply pw_below_drewN | apply below_drew1 | refine below_set ?_ GE101.out | refine below_set ?_ GE102.out | refine below_set ?_ GE132.out) | exact HB.out)); (case side2 => exact Kd.R_tight rfl HO_133001.out); (case side3 => exact Kd.S_types (Kd.S_types (Kd.S_types (Kd.S_apart' (Kd.S_apart' (Kd.S_apart' (Kd.S_apart' (Kd.S_apart' (Kd.S_apart' (HO_133003.out) (Kd.R_typed HO_8.out) (by decide)) (Kd.R_typed HO_11.out) (by decide)) (Kd.R_typed HO_12.out) (by decide)) (Kd.R_typed HO_133001.out) (by decide)) (Kd.R_typed HO147.out) (by decide)) (Kd.R_typed HO155.out) (by decide)) BK101.out (by decide)) BK102.out (by decide)) BK132.out (by decide)); rintro e w96 ⟨rfl, hb, hkp⟩; refine ⟨_, rfl, ?_⟩; have n_ := a9_ (Kd.R_mono (ok' := fun k_ => some k_ ≠ (.slice Ao65 t133.length co65 : Value).ownBlock ∧ some k_ ≠ (v140 : Value).ownBlock ∧ some k_ ≠ (.slice Ao91 t153.length co91 : Value).ownBlock) (Kd.R_keptB ((Kd.R_mono (ok' := fun k_ => ((((some k_ ≠ (.slice Ao65 t133.length co65 : Value).ownBlock ∧ some k_ ≠ (v140 : Value).ownBlock) ∧ some k_ ≠ (.slice Ao91 t153.length co91 : Value).ownBlock) ∧ some k_ ≠ (.slice Ao60 t125.length co60 : Value).ownBlock)) ∧ ¬ (((((((((((True ∧ some k_ ≠ (.slice Ao88 t149.length co88 : Value).ownBlock) ∧ some k_ ≠ (v121 : Value).ownBlock) ∧ some k_ ≠ (.slice Ao65 t133.length co65 : Value).ownBlock) ∧ some k_ ≠ (v140 : Value).ownBlock) ∧ some k_ ≠ (.slice Ao60 t125.length co60 : Value).ownBlock) ∧ some k_ ≠ (.slice Ao87 t145.length co87 : Value).ownBlock) ∧ some k_ ≠ (.slice Ao91 t153.length co91 : Value).ownBlock) ∧ k_ ≠ gb101) ∧ k_ ≠ gb102) ∧ k_ ≠ gb132))) (Kd.R_tight2 rfl (Kd.R_apart' HO_8.out (Kd.R_typed HO_133001.out) (by decide))) (fun k_ hk => ⟨hk.2, fun hp_ => (hp_.1.1.1.1.1.1.1.1.2) hk.1⟩))) hkp (fun k_ hk_ hs_ => Or.elim hs_ (fun e_ => (hk_.1.2) e_) (fun e_ => (hk_.2) e_))) (fun k_ hk_ => ⟨hk_.1.1.1.1.1, hk_.1.1.1.1.2, hk_.1.1.1.2⟩)) (Kd.R_mono (ok' := fun k_ => some k_ ≠ (v121 : Value).ownBlock ∧ some k_ ≠ (v140 : Value).ownBlock ∧ some k_ ≠ (.slice Ao91 t153.length co91 : Value).ownBlock) (Kd.R_keptB ((Kd.R_mono (ok' := fun k_ => ((((some k_ ≠ (v121 : Value).ownBlock ∧ some k_ ≠ (v140 : Value).ownBlock) ∧ some k_ ≠ (.slice Ao91 t153.length co91 : Value).ownBlock) ∧ some k_ ≠ (.slice Ao60 t125.length co60 : Value).ownBlock)) ∧ ¬ (((((((((((True ∧ some k_ ≠ (.slice Ao88 t149.length co88 : Value).ownBlock) ∧ some k_ ≠ (v121 : Value).ownBlock) ∧ some k_ ≠ (.slice Ao65 t133.length co65 : Value).ownBlock) ∧ some k_ ≠ (v140 : Value).ownBlock) ∧ some k_ ≠ (.slice Ao60 t125.length co60 : Value).ownBlock) ∧ some k_ ≠ (.slice Ao87 t145.length co87 : Value).ownBlock) ∧ some k_ ≠ (.slice Ao91 t153.length co91 : Value).ownBlock) ∧ k_ ≠ gb101) ∧ k_ ≠ gb102) ∧ k_ ≠ gb132))) (Kd.R_tight2 rfl (Kd.R_apart' HO_11.out (Kd.R_typed HO_133001.out) (by decide))) (fun k_ hk => ⟨hk.2, fun hp_ => (hp_.1.1.1.1.1.1.1.2) hk.1⟩))) hkp (fun k_ hk_ hs_ => Or.elim hs_ (fun e_ => (hk_.1.2) e_) (fun e_ => (hk_.2) e_))) (fun k_ hk_ => ⟨hk_.1.1.1.1.1, hk_.1.1.1.1.2, hk_.1.1.1.2⟩)) (Kd.R_mono (ok' := fun k_ => some k_ ≠ (v121 : Value).ownBlock ∧ some k_ ≠ (.slice Ao65 t133.length co65 : Value).ownBlock ∧ some k_ ≠ (.slice Ao91 t153.length co91 : Value).ownBlock) (Kd.R_keptB ((Kd.R_mono (ok' := fun k_ => ((((some k_ ≠ (v121 : Value).ownBlock ∧ some k_ ≠ (.slice Ao65 t133.length co65 : Value).ownBlock) ∧ some k_ ≠ (.slice Ao91 t153.length co91 : Value).ownBlock) ∧ some k_ ≠ (.slice Ao60 t125.length co60 : Value).ownBlock)) ∧ ¬ (((((((((((True ∧ some k_ ≠ (.slice Ao88 t149.length co88 : Value).ownBlock) ∧ some k_ ≠ (v121 : Value).ownBlock) ∧ some k_ ≠ (.slice Ao65 t133.length co65 : Value).ownBlock) ∧ some k_ ≠ (v140 : Value).ownBlock) ∧ some k_ ≠ (.slice Ao60 t125.length co60 : Value).ownBlock) ∧ some k_ ≠ (.slice Ao87 t145.length co87 : Value).ownBlock) ∧ some k_ ≠ (.slice Ao91 t153.length co91 : Value).ownBlock) ∧ k_ ≠ gb101) ∧ k_ ≠ gb102) ∧ k_ ≠ gb132))) (Kd.R_tight2 rfl (Kd.R_apart' HO_12.out (Kd.R_typed HO_133001.out) (by decide))) (fun k_ hk => ⟨hk.2, fun hp_ => (hp_.1.1.1.1.1.1.2) hk.1⟩))) hkp (fun k_ hk_ hs_ => Or.elim hs_ (fun e_ => (hk_.1.2) e_) (fun e_ => (hk_.2) e_))) (fun k_ hk_ => ⟨hk_.1.1.1.1.1, hk_.1.1.1.1.2, hk_.1.1.1.2⟩)) (blk_kept z2_ hkp (fun hs_ => Or.elim hs_ (fun e_ => (fun e_ => (Kd.R_ne HO_133001.out BK101.out (by decide)) e_) e_) (fun e_ => (fun e_ => (e_.1.1.2) rfl) e_))) (blk_kept z5_ hkp (fun hs_ => Or.elim hs_ (fun e_ => (fun e_ => (Kd.R_ne HO_133001.out BK102.out (by decide)) e_) e_) (fun e_ => (fun e_ => (e_.1.2) rfl) e_))) (blk_kept z24_ hkp (fun hs_ => Or.elim hs_ (fun e_ => (fun e_ => (Kd.R_ne HO_133001.out BK132.out (by decide)) e_) e_) (fun e_ => (fun e_ => (e_.2) rfl) e_))) (Kd.R_mono (ok' := fun k_ => True) (Kd.R_keptB ((Kd.R_mono (ok' := fun k_ => ((True ∧ some k_ ≠ (.slice Ao60 t125.length co60 : Value).ownBlock)) ∧ ¬ (((((((((((True ∧ some k_ ≠ (.slice Ao88 t149.length co88 : Value).ownBlock) ∧ some k_ ≠ (v121 : Value).ownBlock) ∧ some k_ ≠ (.slice Ao65 t133.length co65 : Value).ownBlock) ∧ some k_ ≠ (v140 : Value).ownBlock) ∧ some k_ ≠ (.slice Ao60 t125.length co60 : Value).ownBlock) ∧ some k_ ≠ (.slice Ao87 t145.length co87 : Value).ownBlock) ∧ some k_ ≠ (.slice Ao91 t153.length co91 : Value).ownBlock) ∧ k_ ≠ gb101) ∧ k_ ≠ gb102) ∧ k_ ≠ gb132))) (Kd.R_tight2 rfl HO147.out) (fun k_ hk => ⟨hk.2, fun hp_ => (hp_.1.1.1.1.2) hk.1⟩))) hkp (fun k_ hk_ hs_ => Or.elim hs_ (fun e_ => (hk_.1.2) e_) (fun e_ => (hk_.2) e_))) (fun k_ hk_ => trivial)) (Kd.R_mono (ok' := fun k_ => some k_ ≠ (v121 : Value).ownBlock ∧ some k_ ≠ (.slice Ao65 t133.length co65 : Value).ownBlock ∧ some k_ ≠ (v140 : Value).ownBlock) (Kd.R_keptB ((Kd.R_mono (ok' := fun k_ => (((((True ∧ some k_ ≠ (v121 : Value).ownBlock) ∧ some k_ ≠ (.slice Ao65 t133.length co65 : Value).ownBlock) ∧ some k_ ≠ (v140 : Value).ownBlock) ∧ some k_ ≠ (.slice Ao60 t125.length co60 : Value).ownBlock)) ∧ ¬ (((((((((((True ∧ some k_ ≠ (.slice Ao88 t149.length co88 : Value).ownBlock) ∧ some k_ ≠ (v121 : Value).ownBlock) ∧ some k_ ≠ (.slice Ao65 t133.length co65 : Value).ownBlock) ∧ some k_ ≠ (v140 : Value).ownBlock) ∧ some k_ ≠ (.slice Ao60 t125.length co60 : Value).ownBlock) ∧ some k_ ≠ (.slice Ao87 t145.length co87 : Value).ownBlock) ∧ some k_ ≠ (.slice Ao91 t153.length co91 : Value).ownBlock) ∧ k_ ≠ gb101) ∧ k_ ≠ gb102) ∧ k_ ≠ gb132))) (Kd.R_tight2 rfl (Kd.R_apart' HO155.out (Kd.R_typed HO_133001.out) (by decide))) (fun k_ hk => ⟨hk.2, fun hp_ => (hp_.1.1.1.2) hk.1⟩))) hkp (fun k_ hk_ hs_ => Or.elim hs_ (fun e_ => (hk_.1.2) e_) (fun e_ => (hk_.2) e_))) (fun k_ hk_ => ⟨hk_.1.1.1.1.1.2, hk_.1.1.1.1.2, hk_.1.1.1.2⟩)) (hb); clear HO_8 HO_11 HO_12 BK101 BK102 BK132 HO147 HO155 HB HO_133001 HO_133003 HO151; obtain ⟨HO_8, HO_11, HO_12, BK101, BK102, BK132, HO147, HO155, HB⟩ := n_; (try clear hb); (try clear hkp)) | ((with_reducible refine gate_callee (f := 15) rfl ?_); refine goesL_ (some 80) rfl rfl Tryd.func15 (by kernel_rfl) rfl #[.slice Ao65 t133.length co65, .int .i64 t157] rfl z4_ ?_; (with_reducible refine (laws_markValueS.calls kj36 (fun k_ => some k_ = (.slice Ao65 t133.length co65 : Value).ownBlock) (.slice Ao65 t133.length co65) t133 t157 t158 t159 w _ ?side1 ?side2 A83.out).mono ?_); (case side1 => repeat (first | (with_reducible first | exact HB.out | apply below_alloc | apply pw_below_drewN | apply below_drew1 | refine below_set ?_ GE101.out | refine below_set ?_ GE102.out | refine below_set ?_ GE132.out) | exact HB.out)); (case side2 => exact Kd.R_tight rfl HO_11.out); rintro e w97 ⟨rfl, hy0, hb, hkp⟩; refine ⟨_, rfl, ?_⟩; have n_ := a9_ (Kd.R_mono (ok' := fun k_ => some k_ ≠ (.slice Ao65 t133.length co65 : Value).ownBlock ∧ some k_ ≠ (v140 : Value).ownBlock ∧ some k_ ≠ (.slice Ao91 t153.length co91 : Value).ownBlock) (Kd.R_keptB (HO_8.out) hkp (fun k_ hk_ hs_ => (hk_.1) hs_)) (fun k_ hk_ => ⟨hk_.1.1, hk_.1.2.1, hk_.1.2.2⟩)) (Kd.R_reok rfl hy0 (fun k_ e_ => HO_11.out.1 k_ e_)) (Kd.R_mono (ok' := fun k_ => some k_ ≠ (v121 : Value).ownBlock ∧ some k_ ≠ (.slice Ao65 t133.length co65 : Value).ownBlock ∧ some k_ ≠ (.slice Ao91 t153.length co91 : Value).ownBlock) (Kd.R_keptB (HO_12.out) hkp (fun k_ hk_ hs_ => (hk_.2.1) hs_)) (fun k_ hk_ => ⟨hk_.1.1, hk_.1.2.1, hk_.1.2.2⟩)) (blk_kept z2_ hkp (fun hs_ => (fun e_ => (Kd.R_ne HO_11.out BK101.out (by decide)) e_) hs_)) (blk_kept z5_ hkp (fun hs_ => (fun e_ => (Kd.R_ne HO_11.out BK102.out (by decide)) e_) hs_)) (blk_kept z24_ hkp (fun hs_ => (fun e_ => (Kd.R_ne HO_11.out BK132.out (by decide)) e_) hs_)) (Kd.R_mono (ok' := fun k_ => True) (Kd.R_keptB ((Kd.R_apart' HO147.out (Kd.R_typed HO_11.out) (by decide))) hkp (fun k_ hk_ hs_ => (hk_.2) hs_)) (fun k_ hk_ => trivial)) (Kd.R_mono (ok' := fun k_ => some k_ ≠ (v121 : Value).ownBlock ∧ some k_ ≠ (.slice Ao65 t133.length co65 : Value).ownBlock ∧ some k_ ≠ (v140 : Value).ownBlock) (Kd.R_keptB (HO155.out) hkp (fun k_ hk_ hs_ => (hk_.2.1) hs_)) (fun k_ hk_ => ⟨hk_.1.1, hk_.1.2.1, hk_.1.2.2⟩)) (hb); clear HO_8 HO_11 HO_12 BK101 BK102 BK132 HO147 HO155 HB; obtain ⟨HO_8, HO_11, HO_12, BK101, BK102, BK132, HO147, HO155, HB⟩ := n_; (try clear hb); (try clear hkp); (try clear hy0)))
      (try simp only [Act.put, List.setIfInBounds_toArray, List.set_cons_zero, List.set_cons_succ])
      go_cut [93] (fun v93 wc => ∃ (kq : Nat) (x93_83 : Bool), v93 = .bool x93_83 ∧ Aside0 (laws_FnExactWidenRow.j1 kq l1 t120 t123 t139 x93_83 a0_0 l0_1 a0_2 l0_3 a2_0 a2_1 a2_2 = some r) ∧ Aside0 (kq ≤ kj36) ∧ Aside0 (Kd.R k41 41 wc w.heap.size (fun k_ => some k_ ≠ (v140 : Value).ownBlock) v121 t120) ∧ Aside0 (Kd.R k41 41 wc w.heap.size (fun k_ => some k_ ≠ (v121 : Value).ownBlock) v140 t139) ∧ Aside0 (wc.heap[gb101]? = some (.cells #[.string a0_0, (.slice A0_1 l0_1.length c0_1), .int .i64 a0_2, (.slice A0_3 l0_3.length c0_3)] 25 (0, 0))) ∧ Aside0 (wc.heap[gb102]? = some (.cells #[.int .i64 a2_0, .int .i64 a2_1, .string a2_2] 28 (0, 0))) ∧ Aside0 (Below w.heap.size w wc))
      case first =>
        have H := HC84.out
        clear HC84
        by_cases c98 : t158 < 0
        · rw [if_pos c98] at H
          have c98b0 := decide_eq_true c98
          clear c98
          (first | rw [c98b0] | (simp only [i64_w, i32_w]; rw [c98b0]) | skip)
          have H' := ak_ H
          clear H
          go_wp2
          go_meet
          case rel => exact ⟨_, (true), z9_, H', ⟨by have := HJ36.out; first | omega | exact Nat.le_refl _⟩, ⟨by (with_reducible repeat (first | apply Kd.R_alloc | apply Kd.R_drewN | apply Kd.R_drew)); exact Kd.R_mono HO_8.out (fun _ hk => hk.2.1)⟩, ⟨by (with_reducible repeat (first | apply Kd.R_alloc | apply Kd.R_drewN | apply Kd.R_drew)); exact Kd.R_mono HO_12.out (fun _ hk => hk.1)⟩, ⟨z2_⟩, ⟨z5_⟩, ⟨z11_⟩⟩
        rw [if_neg c98] at H
        have c98b0 := decide_eq_false c98
        clear c98
        (first | rw [c98b0] | (simp only [i64_w, i32_w]; rw [c98b0]) | skip)
        replace H := Option.bind_eq_some_iff.mp H
        obtain ⟨t160, A990, H⟩ := H
        have A99 := ak_ A990
        clear A990
        by_cases c100 : t160 = true
        · subst c100
          have H1 : (laws_FnExactWidenRow.j1 kj36 l1 t120 t123 t139 (t142 != t123) a0_0 l0_1 a0_2 l0_3 a2_0 a2_1 a2_2) = some r := by rw [if_pos rfl] at H; exact H
          clear H
          have H := H1
          clear H1
          have H' := ak_ H
          clear H
          obtain ⟨Ao101, co101, eo101⟩ := Kd.R_slice HO_12.out
          subst eo101
          obtain ⟨Ao102, co102, eo102⟩ := Kd.R_slice HO_8.out
          subst eo102
          go_wp2_with (first | (go_at_call 12; (with_reducible refine (laws_eqValueS.calls kj36 _ _ t139 _ _ t120 true _ ?side1 ?side2 ?side3 ?side4 A99.out).mono ?_); (case side1 => repeat (first | exact (Kd.R_reads' HO_12.out).2.2 | (with_reducible refine Kd.C_alloc ?_ _) | (with_reducible refine Kd.C_drewN ?_ _) | (with_reducible refine Kd.C_drew ?_))); (case side2 => exact (Kd.R_reads' HO_12.out).2.1); (case side3 => repeat (first | exact (Kd.R_reads' HO_8.out).2.2 | (with_reducible refine Kd.C_alloc ?_ _) | (with_reducible refine Kd.C_drewN ?_ _) | (with_reducible refine Kd.C_drew ?_))); (case side4 => exact (Kd.R_reads' HO_8.out).2.1); rintro e w103 ⟨rfl, hb⟩; have n_ := a9_ (Kd.R_below z23_ hb) (Kd.R_below z38_ hb) (Kd.R_below z22_ hb) (Kd.R_below z52_ hb) (Kd.R_below z80_ hb) (blk_below (g := gb101) (o := .cells #[.string a0_0, .slice A0_1 l0_1.length c0_1, .int .i64 a0_2, .slice A0_3 l0_3.length c0_3] 25 (0, 0)) z2_ hb) (blk_below (g := gb102) (o := .cells #[.int .i64 a2_0, .int .i64 a2_1, .string a2_2] 28 (0, 0)) z5_ hb) (blk_below (g := gb132) (o := .cells #[.string t124, .slice Ao60 t125.length co60, .int .i64 t128, .slice Ao61 t129.length co61] 38 (0, 0)) z24_ hb) (below_step z11_ hb); clear HO_8 HO_11 HO_12 HO147 HO155 BK101 BK102 BK132 HB; obtain ⟨HO_8, HO_11, HO_12, HO147, HO155, BK101, BK102, BK132, HB⟩ := n_; (try clear hb); (try clear hb2); (try clear hk); (try clear hi)))
          go_meet
          case rel => exact ⟨_, ((t142 != t123)), z9_, H', ⟨by have := HJ36.out; first | omega | exact Nat.le_refl _⟩, ⟨by (with_reducible repeat (first | apply Kd.R_alloc | apply Kd.R_drewN | apply Kd.R_drew)); exact Kd.R_mono HO_8.out (fun _ hk => hk.2.1)⟩, ⟨by (with_reducible repeat (first | apply Kd.R_alloc | apply Kd.R_drewN | apply Kd.R_drew)); exact Kd.R_mono HO_12.out (fun _ hk => hk.1)⟩, ⟨z2_⟩, ⟨z5_⟩, ⟨z11_⟩⟩
        replace c100 := Bool.eq_false_iff.mpr c100
        subst c100
        have H1 : (laws_FnExactWidenRow.j1 kj36 l1 t120 t123 t139 true a0_0 l0_1 a0_2 l0_3 a2_0 a2_1 a2_2) = some r := by rw [if_neg (show ¬ (false = true) by decide)] at H; exact H
        clear H
        have H := H1
        clear H1
        have H' := ak_ H
        clear H
        obtain ⟨Ao104, co104, eo104⟩ := Kd.R_slice HO_12.out
        subst eo104
        obtain ⟨Ao105, co105, eo105⟩ := Kd.R_slice HO_8.out
        subst eo105
        go_wp2_with (first | (go_at_call 12; (with_reducible refine (laws_eqValueS.calls kj36 _ _ t139 _ _ t120 false _ ?side1 ?side2 ?side3 ?side4 A99.out).mono ?_); (case side1 => repeat (first | exact (Kd.R_reads' HO_12.out).2.2 | (with_reducible refine Kd.C_alloc ?_ _) | (with_reducible refine Kd.C_drewN ?_ _) | (with_reducible refine Kd.C_drew ?_))); (case side2 => exact (Kd.R_reads' HO_12.out).2.1); (case side3 => repeat (first | exact (Kd.R_reads' HO_8.out).2.2 | (with_reducible refine Kd.C_alloc ?_ _) | (with_reducible refine Kd.C_drewN ?_ _) | (with_reducible refine Kd.C_drew ?_))); (case side4 => exact (Kd.R_reads' HO_8.out).2.1); rintro e w106 ⟨rfl, hb⟩; have n_ := a9_ (Kd.R_below z23_ hb) (Kd.R_below z38_ hb) (Kd.R_below z22_ hb) (Kd.R_below z52_ hb) (Kd.R_below z80_ hb) (blk_below (g := gb101) (o := .cells #[.string a0_0, .slice A0_1 l0_1.length c0_1, .int .i64 a0_2, .slice A0_3 l0_3.length c0_3] 25 (0, 0)) z2_ hb) (blk_below (g := gb102) (o := .cells #[.int .i64 a2_0, .int .i64 a2_1, .string a2_2] 28 (0, 0)) z5_ hb) (blk_below (g := gb132) (o := .cells #[.string t124, .slice Ao60 t125.length co60, .int .i64 t128, .slice Ao61 t129.length co61] 38 (0, 0)) z24_ hb) (below_step z11_ hb); clear HO_8 HO_11 HO_12 HO147 HO155 BK101 BK102 BK132 HB; obtain ⟨HO_8, HO_11, HO_12, HO147, HO155, BK101, BK102, BK132, HB⟩ := n_; (try clear hb); (try clear hb2); (try clear hk); (try clear hi)))
        go_meet
        case rel => exact ⟨_, (true), z9_, H', ⟨by have := HJ36.out; first | omega | exact Nat.le_refl _⟩, ⟨by (with_reducible repeat (first | apply Kd.R_alloc | apply Kd.R_drewN | apply Kd.R_drew)); exact Kd.R_mono HO_8.out (fun _ hk => hk.2.1)⟩, ⟨by (with_reducible repeat (first | apply Kd.R_alloc | apply Kd.R_drewN | apply Kd.R_drew)); exact Kd.R_mono HO_12.out (fun _ hk => hk.1)⟩, ⟨z2_⟩, ⟨z5_⟩, ⟨z11_⟩⟩
      case rest =>
        clear HC84
        try clear c1
        try clear c2
        try clear p2
        try clear c3
        try clear c4
        try clear c5
        try clear c5b0
        try clear c6
        try clear c7
        try clear c8
        try clear c9
        try clear c10
        try clear c11
        try clear c12
        try clear c12b0
        try clear c13
        try clear c14
        try clear c15
        try clear c20
        try clear c20b0
        try clear c23
        try clear c40
        try clear c57
        try clear c58
        try clear c68
        try clear c75
        try clear c78
        try clear c81
        try clear c93
        try clear c94
        try clear c98
        try clear c98b0
        try clear c100
        try clear hcz16_0
        try clear hcz16_1
        try clear hcz16_2
        try clear hcz16_3
        try clear hcz24_0
        try clear hcz24_1
        try clear hcz24_2
        try clear hcz24_3
        try clear hcz27_0
        try clear hcz27_1
        try clear hcz27_2
        try clear hcz41_0
        try clear hcz41_1
        try clear hcz41_2
        try clear hcz41_3
        try clear hcz44_0
        try clear hcz44_1
        try clear hcz44_2
        try clear hcz54_0
        try clear hcz54_1
        try clear hcz54_2
        try clear hcz54_3
        try clear hcz59_0
        try clear hcz59_1
        try clear hcz59_2
        try clear hcz59_3
        try clear hcz95_0
        try clear hcz95_1
        try clear hcz95_2
        try clear hcz95_3
        try clear hcz9_0
        try clear hcz9_1
        try clear hcz9_2
        try clear hcz9_3
        try clear hfz16_0
        try clear hfz16_1
        try clear hfz16_2
        try clear hfz16_3
        try clear hfz24_0
        try clear hfz24_1
        try clear hfz24_2
        try clear hfz24_3
        try clear hfz27_0
        try clear hfz27_1
        try clear hfz27_2
        try clear hfz41_0
        try clear hfz41_1
        try clear hfz41_2
        try clear hfz41_3
        try clear hfz44_0
        try clear hfz44_1
        try clear hfz44_2
        try clear hfz54_0
        try clear hfz54_1
        try clear hfz54_2
        try clear hfz54_3
        try clear hfz59_0
        try clear hfz59_1
        try clear hfz59_2
        try clear hfz59_3
        try clear hfz95_0
        try clear hfz95_1
        try clear hfz95_2
        try clear hfz95_3
        try clear hfz9_0
        try clear hfz9_1
        try clear hfz9_2
        try clear hfz9_3
        try clear p2
        obtain ⟨kq, x93_83, rfl, HA, HJ83, HO_8, HO_12, BK101, BK102, HB⟩ := hcut
        cases kq with
        | zero => exact absurd HA.out (by simp [laws_FnExactWidenRow.j1])
        | succ kj83 =>
          have H := HA.out
          clear HA
          simp only [laws_FnExactWidenRow.j1] at H
          by_cases c107 : x93_83 = true
          · subst c107
            have H1 : (none) = some r := by rw [if_pos rfl] at H; exact H
            clear H
            have H := H1
            clear H1
            exact absurd H (by simp)
          replace c107 := Bool.eq_false_iff.mpr c107
          subst c107
          have H1 : ((laws_markValueS.f kj83 t139 1).bind fun bt161 => ((laws_heldValueS.f kj83 bt161.2 1).bind fun t163 => (if t163 < 0 then (none) else (if t163 = bt161.1 then ((laws_toTable.f kj83 a0_0 l0_1 a0_2 l0_3).bind fun bt164 => ((laws_toValueS.f kj83 l1).bind fun t172 => ((laws_toValue.f a2_0 a2_1 a2_2).bind fun bt175 => ((impl_WidenRow.f kj83 bt164.1 bt164.2.1 bt164.2.2.1 bt164.2.2.2 t172 bt175.1 bt175.2.1 bt175.2.2).bind fun bt178 => ((laws_eqValueS.f kj83 bt178.1 t120).bind fun t182 => (if t182 = true then (laws_FnExactWidenRow.j2 kj83 bt161.2 bt161.1 (bt178.2 != t123)) else (laws_FnExactWidenRow.j2 kj83 bt161.2 bt161.1 true))))))) else (none))))) = some r := by rw [if_neg (show ¬ (false = true) by decide)] at H; exact H
          clear H
          have H := H1
          clear H1
          replace H := Option.bind_eq_some_iff.mp H
          obtain ⟨⟨t161, t162⟩, A1080, H⟩ := H
          replace H : ((laws_heldValueS.f kj83 t162 1).bind fun t163 => (if t163 < 0 then (none) else (if t163 = t161 then ((laws_toTable.f kj83 a0_0 l0_1 a0_2 l0_3).bind fun bt164 => ((laws_toValueS.f kj83 l1).bind fun t172 => ((laws_toValue.f a2_0 a2_1 a2_2).bind fun bt175 => ((impl_WidenRow.f kj83 bt164.1 bt164.2.1 bt164.2.2.1 bt164.2.2.2 t172 bt175.1 bt175.2.1 bt175.2.2).bind fun bt178 => ((laws_eqValueS.f kj83 bt178.1 t120).bind fun t182 => (if t182 = true then (laws_FnExactWidenRow.j2 kj83 t162 t161 (bt178.2 != t123)) else (laws_FnExactWidenRow.j2 kj83 t162 t161 true))))))) else (none)))) = some r := H
          have A108 := ak_ A1080
          clear A1080
          replace H := Option.bind_eq_some_iff.mp H
          obtain ⟨t163, A1090, H⟩ := H
          have A109 := ak_ A1090
          clear A1090
          by_cases c110 : t163 < 0
          · rw [if_pos c110] at H
            exact absurd H (by simp)
          rw [if_neg c110] at H
          have c110b0 := decide_eq_false c110
          clear c110
          by_cases c111 : t163 = t161
          rotate_left
          · rw [if_neg c111] at H
            exact absurd H (by simp)
          rw [if_pos c111] at H
          have c111b0 : (t163 == t161) = true := beq_iff_eq.mpr c111
          have c111b1 : (t163 != t161) = false := bne_eq_false_iff_eq.mpr c111
          clear c111
          replace H := Option.bind_eq_some_iff.mp H
          obtain ⟨⟨t164, t165, t168, t169⟩, A1120, H⟩ := H
          replace H : ((laws_toValueS.f kj83 l1).bind fun t172 => ((laws_toValue.f a2_0 a2_1 a2_2).bind fun bt175 => ((impl_WidenRow.f kj83 t164 t165 t168 t169 t172 bt175.1 bt175.2.1 bt175.2.2).bind fun bt178 => ((laws_eqValueS.f kj83 bt178.1 t120).bind fun t182 => (if t182 = true then (laws_FnExactWidenRow.j2 kj83 t162 t161 (bt178.2 != t123)) else (laws_FnExactWidenRow.j2 kj83 t162 t161 true)))))) = some r := H
          have A112 := ak_ A1120
          clear A1120
          replace H := Option.bind_eq_some_iff.mp H
          obtain ⟨t172, A1130, H⟩ := H
          have A113 := ak_ A1130
          clear A1130
          replace H := Option.bind_eq_some_iff.mp H
          obtain ⟨⟨t175, t176, t177⟩, A1140, H⟩ := H
          replace H : ((impl_WidenRow.f kj83 t164 t165 t168 t169 t172 t175 t176 t177).bind fun bt178 => ((laws_eqValueS.f kj83 bt178.1 t120).bind fun t182 => (if t182 = true then (laws_FnExactWidenRow.j2 kj83 t162 t161 (bt178.2 != t123)) else (laws_FnExactWidenRow.j2 kj83 t162 t161 true)))) = some r := H
          have A114 := ak_ A1140
          clear A1140
          replace H := Option.bind_eq_some_iff.mp H
          obtain ⟨⟨t178, t181⟩, A1150, H⟩ := H
          replace H : ((laws_eqValueS.f kj83 t178 t120).bind fun t182 => (if t182 = true then (laws_FnExactWidenRow.j2 kj83 t162 t161 (t181 != t123)) else (laws_FnExactWidenRow.j2 kj83 t162 t161 true))) = some r := H
          have A115 := ak_ A1150
          clear A1150
          have HC116 := ak_ H
          clear H
          obtain ⟨Ao117, co117, eo117⟩ := Kd.R_slice HO_12.out
          subst eo117
          try go_wp2_with (first | ((with_reducible refine gate_callee (f := 15) rfl ?_); refine goesL_ (some 96) rfl rfl Tryd.func15 (by kernel_rfl) rfl #[.slice Ao117 t139.length co117, .int .i64 1] rfl z4_ ?_; (with_reducible refine (laws_markValueS.calls kj83 (fun k_ => some k_ = (.slice Ao117 t139.length co117 : Value).ownBlock) (.slice Ao117 t139.length co117) t139 1 t161 t162 w _ ?side1 ?side2 A108.out).mono ?_); (case side1 => repeat (first | (with_reducible first | exact HB.out | apply below_alloc | apply pw_below_drewN | apply below_drew1 | refine below_set ?_ GE101.out | refine below_set ?_ GE102.out) | exact HB.out)); (case side2 => exact Kd.R_tight rfl HO_12.out); rintro e w118 ⟨rfl, hy0, hb, hkp⟩; refine ⟨_, rfl, ?_⟩; have n_ := a5_ (Kd.R_mono (ok' := fun k_ => some k_ ≠ (.slice Ao117 t139.length co117 : Value).ownBlock) (Kd.R_keptB (HO_8.out) hkp (fun k_ hk_ hs_ => (hk_) hs_)) (fun k_ hk_ => hk_.1)) (Kd.R_reok rfl hy0 (fun k_ e_ => HO_12.out.1 k_ e_)) (blk_kept z2_ hkp (fun hs_ => (fun e_ => (Kd.R_ne HO_12.out BK101.out (by decide)) e_) hs_)) (blk_kept z5_ hkp (fun hs_ => (fun e_ => (Kd.R_ne HO_12.out BK102.out (by decide)) e_) hs_)) (hb); clear HO_8 HO_12 BK101 BK102 HB; obtain ⟨HO_8, HO_12, BK101, BK102, HB⟩ := n_; (try clear hb); (try clear hkp); (try clear hy0)) | ((with_reducible refine gate_callee (f := 16) rfl ?_); refine goesL_ (some 99) rfl rfl Tryd.func16 (by kernel_rfl) rfl #[.slice Ao117 t162.length co117, .int .i64 1] rfl (by (try simp only [List.map_toArray, List.map_cons, List.map_nil]); first | done | (rw [show t162.length = t139.length from (Kd.R_reads' HO_12.out).1.symm] <;> rfl) | rfl | (simp only [List.length_drop, List.length_take]; rfl)) ?_; (with_reducible refine (laws_heldValueS.calls kj83 _ _ t162 1 t163 _ ?side1 ?side2 A109.out).mono ?_); (case side1 => repeat (first | exact (Kd.R_reads' HO_12.out).2.2 | (with_reducible refine Kd.C_alloc ?_ _) | (with_reducible refine Kd.C_drewN ?_ _) | (with_reducible refine Kd.C_drew ?_))); (case side2 => rw [show t162.length = t139.length from (Kd.R_reads' HO_12.out).1.symm]; exact (Kd.R_reads' HO_12.out).2.1); rintro e w119 ⟨rfl, hb⟩; refine ⟨_, rfl, ?_⟩; have n_ := a5_ (Kd.R_below z23_ hb) (Kd.R_below z22_ hb) (blk_below (g := gb101) (o := .cells #[.string a0_0, .slice A0_1 l0_1.length c0_1, .int .i64 a0_2, .slice A0_3 l0_3.length c0_3] 25 (0, 0)) z2_ hb) (blk_below (g := gb102) (o := .cells #[.int .i64 a2_0, .int .i64 a2_1, .string a2_2] 28 (0, 0)) z5_ hb) (below_step z3_ hb); clear HO_8 HO_12 BK101 BK102 HB; obtain ⟨HO_8, HO_12, BK101, BK102, HB⟩ := n_; (try clear hb); (try clear hb2); (try clear hk); (try clear hi)))
          have n_ := a5_ (Kd.R_drew HO_8.out) (Kd.R_drew HO_12.out) (blk_drew BK101.out) (blk_drew BK102.out) (below_drew1 HB.out)
          clear HO_8 HO_12 BK101 BK102 HB
          obtain ⟨HO_8, HO_12, BK101, BK102, HB⟩ := n_
          refine start_ (n := 12) (S := fun w' => w'.cell? ⟨gb101, 0, none⟩ = some (.string a0_0) ∧ w'.cell? ⟨gb101, 1, none⟩ = some (.slice A0_1 l0_1.length c0_1) ∧ w'.cell? ⟨gb101, 2, none⟩ = some (.int .i64 a0_2) ∧ w'.cell? ⟨gb101, 3, none⟩ = some (.slice A0_3 l0_3.length c0_3) ∧ w'.cell? ⟨gb102, 0, none⟩ = some (.int .i64 a2_0) ∧ w'.cell? ⟨gb102, 1, none⟩ = some (.int .i64 a2_1) ∧ w'.cell? ⟨gb102, 2, none⟩ = some (.string a2_2)) (ds := []) #[false, false, false, false, false, false, false, false, false, false, false, false] (by kernel_rfl) rfl rfl ⟨(blk_cell BK101.out 0).trans rfl, (blk_cell BK101.out 1).trans rfl, (blk_cell BK101.out 2).trans rfl, (blk_cell BK101.out 3).trans rfl, (blk_cell BK102.out 0).trans rfl, (blk_cell BK102.out 1).trans rfl, (blk_cell BK102.out 2).trans rfl⟩ (fun hHeld => ?_); refine with_tabW laws_FnExactWidenRow.tab34 laws_FnExactWidenRow.bits34 (fun HT_ HW_ => ?_)
          generalize w119.drew = w120 at HO_8 HO_12 BK101 BK102 HB hHeld ⊢
          refine pu_ 2 (N := some 108) #[false, false, true, false, false, false, false, false, false, false, false, false] HT_.out (h_ := ?_)
          refine tk_ 0 (N := some 106) #[true, false, true, false, false, false, false, false, false, false, false, false] HT_.out HW_.out hHeld (hy := by rintro w' ⟨s0, s1, s2, s3, s4, s5, s6⟩; go_simp; with_reducible rfl) (h_ := ?_)
          refine tk_ 4 (N := some 110) #[true, false, true, false, true, false, false, false, false, false, false, false] HT_.out HW_.out hHeld (hy := by rintro w' ⟨s0, s1, s2, s3, s4, s5, s6⟩; go_simp; with_reducible rfl) (h_ := ?_)
          refine one_ (i := 1) (N := some 107) #[true, true, true, false, true, false, false, false, false, false, false, false] rfl rfl (one_of HT_.out (by kernel_rfl)) (by decide) (fun K hK => ?_)
          refine goes_ Tryd.func8 (by kernel_rfl) rfl #[.agg #[.string a0_0, .slice A0_1 l0_1.length c0_1, .int .i64 a0_2, .slice A0_3 l0_3.length c0_3]] (by rfl) rfl rfl z4_ ?_
          with_reducible refine (laws_toTable.calls kj83 a0_0 _ _ l0_1 a0_2 _ _ l0_3 t164 t165 t168 t169 _ ?side1 ?side2 ?side3 ?side4 A112.out).mono ?_
          (case side1 => repeat (first | exact (Kd.C_below HR0_1.out HB.out) | (with_reducible refine Kd.C_alloc ?_ _) | (with_reducible refine Kd.C_drewN ?_ _) | (with_reducible refine Kd.C_drew ?_)))
          (case side2 => exact HC0_1.out)
          (case side3 => repeat (first | exact (Kd.C_below HR0_3.out HB.out) | (with_reducible refine Kd.C_alloc ?_ _) | (with_reducible refine Kd.C_drewN ?_ _) | (with_reducible refine Kd.C_drew ?_)))
          (case side4 => exact HC0_3.out)
          rintro e w121 ⟨v166, v170, rfl, ho0, ho1, hb⟩
          refine ⟨_, rfl, ?_⟩
          have n_ := a7_ (Kd.R_below z23_ hb) (Kd.R_below z22_ hb) (Kd.R_lower ho0 (below_size z3_)) (Kd.S_lower ho1 (below_size z3_)) (blk_below (g := gb101) (o := .cells #[.string a0_0, .slice A0_1 l0_1.length c0_1, .int .i64 a0_2, .slice A0_3 l0_3.length c0_3] 25 (0, 0)) z2_ hb) (blk_below (g := gb102) (o := .cells #[.int .i64 a2_0, .int .i64 a2_1, .string a2_2] 28 (0, 0)) z5_ hb) (below_step z3_ hb)
          clear HO_8 HO_12 BK101 BK102 HB
          obtain ⟨HO_8, HO_12, HO167, HO171, BK101, BK102, HB⟩ := n_
          (try clear hb)
          (try clear hb2)
          (try clear hk)
          (try clear hi)
          (try clear ho0)
          (try clear ho1)
          refine hK.out _ _ ⟨(blk_cell BK101.out 0).trans rfl, (blk_cell BK101.out 1).trans rfl, (blk_cell BK101.out 2).trans rfl, (blk_cell BK101.out 3).trans rfl, (blk_cell BK102.out 0).trans rfl, (blk_cell BK102.out 1).trans rfl, (blk_cell BK102.out 2).trans rfl⟩ (fun hHeld => ?_)
          clear hK K
          refine norm_ (a' := ?_) ?_ ?_
          rotate_left
          · show Act.put _ (some 107) _ = _
            simp only [Act.put, List.setIfInBounds_toArray, List.set_cons_zero, List.set_cons_succ, i64_w, i32_w]
            rfl
          refine one_ (i := 3) (N := some 109) #[true, true, true, true, true, false, false, false, false, false, false, false] rfl rfl (one_of HT_.out (by kernel_rfl)) (by decide) (fun K hK => ?_)
          refine goes_ Tryd.func9 (by kernel_rfl) rfl #[.slice A1 l1.length c1] (by rfl) rfl rfl z4_ ?_
          with_reducible refine (laws_toValueS.calls kj83 _ _ l1 t172 _ ?side1 ?side2 A113.out).mono ?_
          (case side1 => repeat (first | exact (Kd.C_below HR1.out HB.out) | (with_reducible refine Kd.C_alloc ?_ _) | (with_reducible refine Kd.C_drewN ?_ _) | (with_reducible refine Kd.C_drew ?_)))
          (case side2 => exact HC1.out)
          rintro e w122 ⟨v173, rfl, ho0, hb⟩
          refine ⟨_, rfl, ?_⟩
          have n_ := a8_ (Kd.R_elder' z23_ (Kd.R_base ho0) hb) (Kd.R_elder' z22_ (Kd.R_base ho0) hb) (Kd.R_below z53_ hb) (Kd.S_below z54_ hb) (Kd.R_lower (Kd.R_new' (Kd.R_new' ho0 (Kd.R_lt z23_)) (Kd.R_lt z22_)) (below_size z3_)) (blk_below (g := gb101) (o := .cells #[.string a0_0, .slice A0_1 l0_1.length c0_1, .int .i64 a0_2, .slice A0_3 l0_3.length c0_3] 25 (0, 0)) z2_ hb) (blk_below (g := gb102) (o := .cells #[.int .i64 a2_0, .int .i64 a2_1, .string a2_2] 28 (0, 0)) z5_ hb) (below_step z3_ hb)
          clear HO_8 HO_12 HO167 HO171 BK101 BK102 HB
          obtain ⟨HO_8, HO_12, HO167, HO171, HO174, BK101, BK102, HB⟩ := n_
          (try clear hb)
          (try clear hb2)
          (try clear hk)
          (try clear hi)
          (try clear ho0)
          refine hK.out _ _ ⟨(blk_cell BK101.out 0).trans rfl, (blk_cell BK101.out 1).trans rfl, (blk_cell BK101.out 2).trans rfl, (blk_cell BK101.out 3).trans rfl, (blk_cell BK102.out 0).trans rfl, (blk_cell BK102.out 1).trans rfl, (blk_cell BK102.out 2).trans rfl⟩ (fun hHeld => ?_)
          clear hK K
          refine norm_ (a' := ?_) ?_ ?_
          rotate_left
          · show Act.put _ (some 109) _ = _
            simp only [Act.put, List.setIfInBounds_toArray, List.set_cons_zero, List.set_cons_succ, i64_w, i32_w]
            rfl
          refine one_ (i := 5) (N := some 111) #[true, true, true, true, true, true, false, false, false, false, false, false] rfl rfl (one_of HT_.out (by kernel_rfl)) (by decide) (fun K hK => ?_)
          refine goes_ Tryd.func10 (by kernel_rfl) rfl #[.agg #[.int .i64 a2_0, .int .i64 a2_1, .string a2_2]] (by rfl) rfl rfl z4_ ?_
          with_reducible refine (laws_toValue.calls a2_0 a2_1 a2_2 t175 t176 t177 _ A114.out).mono ?_
          rintro e w123 ⟨rfl, hb⟩
          refine ⟨_, rfl, ?_⟩
          have n_ := a8_ (Kd.R_below z23_ hb) (Kd.R_below z22_ hb) (Kd.R_below z53_ hb) (Kd.S_below z54_ hb) (Kd.R_below z55_ hb) (blk_below (g := gb101) (o := .cells #[.string a0_0, .slice A0_1 l0_1.length c0_1, .int .i64 a0_2, .slice A0_3 l0_3.length c0_3] 25 (0, 0)) z2_ hb) (blk_below (g := gb102) (o := .cells #[.int .i64 a2_0, .int .i64 a2_1, .string a2_2] 28 (0, 0)) z5_ hb) (below_step z3_ hb)
          clear HO_8 HO_12 HO167 HO171 HO174 BK101 BK102 HB
          obtain ⟨HO_8, HO_12, HO167, HO171, HO174, BK101, BK102, HB⟩ := n_
          (try clear hb)
          (try clear hb2)
          (try clear hk)
          (try clear hi)
          obtain ⟨Ao124, co124, eo124⟩ := Kd.R_slice HO167.out
          (first | subst eo124 | (injection eo124 with f1_ f2_ f3_; have f4_ := f1_.symm; have f5_ := f3_.symm; clear f1_ f2_ f3_; subst f4_; subst f5_))
          obtain ⟨Ao125, co125, eo125⟩ := Kd.S_slice HO171.out
          (first | subst eo125 | (injection eo125 with f1_ f2_ f3_; have f4_ := f1_.symm; have f5_ := f3_.symm; clear f1_ f2_ f3_; subst f4_; subst f5_))
          obtain ⟨Ao126, co126, eo126⟩ := Kd.R_slice HO174.out
          (first | subst eo126 | (injection eo126 with f1_ f2_ f3_; have f4_ := f1_.symm; have f5_ := f3_.symm; clear f1_ f2_ f3_; subst f4_; subst f5_))
          refine hK.out _ _ ⟨(blk_cell BK101.out 0).trans rfl, (blk_cell BK101.out 1).trans rfl, (blk_cell BK101.out 2).trans rfl, (blk_cell BK101.out 3).trans rfl, (blk_cell BK102.out 0).trans rfl, (blk_cell BK102.out 1).trans rfl, (blk_cell BK102.out 2).trans rfl⟩ (fun hHeld => ?_)
          clear hK K
          refine norm_ (a' := ?_) ?_ ?_
          rotate_left
          · show Act.put _ (some 111) _ = _
            simp only [Act.put, List.setIfInBounds_toArray, List.set_cons_zero, List.set_cons_succ, i64_w, i32_w]
            rfl
          refine one_ (i := 6) (N := some 112) #[true, true, true, true, true, true, true, false, false, false, false, false] rfl rfl (one_of HT_.out (by kernel_rfl)) (by decide) (fun K hK => ?_)
          refine goes_ Tryd.func11 (by kernel_rfl) rfl #[.agg #[.string t164, .slice Ao124 t165.length co124, .int .i64 t168, .slice Ao125 t169.length co125], .slice Ao126 t172.length co126, .agg #[.int .i64 t175, .int .i64 t176, .string t177]] (by rfl) rfl rfl z4_ ?_
          with_reducible refine (impl_WidenRow.calls kj83 t164 _ _ t165 t168 _ _ t169 _ _ t172 t175 t176 t177 t178 t181 _ ?side1 ?side2 ?side3 ?side4 ?side5 ?side6 A115.out).mono ?_
          (case side1 => repeat (first | exact (Kd.R_reads' HO167.out).2.2 | (with_reducible refine Kd.C_alloc ?_ _) | (with_reducible refine Kd.C_drewN ?_ _) | (with_reducible refine Kd.C_drew ?_)))
          (case side2 => exact (Kd.R_reads' HO167.out).2.1)
          (case side3 => repeat (first | exact (Kd.S_reads' HO171.out).2.2 | (with_reducible refine Kd.C_alloc ?_ _) | (with_reducible refine Kd.C_drewN ?_ _) | (with_reducible refine Kd.C_drew ?_)))
          (case side4 => exact (Kd.S_reads' HO171.out).2.1)
          (case side5 => repeat (first | exact (Kd.R_reads' HO174.out).2.2 | (with_reducible refine Kd.C_alloc ?_ _) | (with_reducible refine Kd.C_drewN ?_ _) | (with_reducible refine Kd.C_drew ?_)))
          (case side6 => exact (Kd.R_reads' HO174.out).2.1)
          rintro e w127 ⟨v179, rfl, ho0, hb⟩
          refine ⟨_, rfl, ?_⟩
          have n_ := a9_ (Kd.R_elder' z23_ (Kd.R_base ho0) hb) (Kd.R_elder' z22_ (Kd.R_base ho0) hb) (Kd.R_below z53_ hb) (Kd.S_below z54_ hb) (Kd.R_elder' z55_ (Kd.R_base ho0) hb) (Kd.R_lower (Kd.R_new' (Kd.R_new' (Kd.R_new' ho0 (Kd.R_lt z23_)) (Kd.R_lt z22_)) (Kd.R_lt z55_)) (below_size z3_)) (blk_below (g := gb101) (o := .cells #[.string a0_0, .slice A0_1 l0_1.length c0_1, .int .i64 a0_2, .slice A0_3 l0_3.length c0_3] 25 (0, 0)) z2_ hb) (blk_below (g := gb102) (o := .cells #[.int .i64 a2_0, .int .i64 a2_1, .string a2_2] 28 (0, 0)) z5_ hb) (below_step z3_ hb)
          clear HO_8 HO_12 HO167 HO171 HO174 BK101 BK102 HB
          obtain ⟨HO_8, HO_12, HO167, HO171, HO174, HO180, BK101, BK102, HB⟩ := n_
          (try clear hb)
          (try clear hb2)
          (try clear hk)
          (try clear hi)
          (try clear ho0)
          refine hK.out _ _ ⟨(blk_cell BK101.out 0).trans rfl, (blk_cell BK101.out 1).trans rfl, (blk_cell BK101.out 2).trans rfl, (blk_cell BK101.out 3).trans rfl, (blk_cell BK102.out 0).trans rfl, (blk_cell BK102.out 1).trans rfl, (blk_cell BK102.out 2).trans rfl⟩ (fun hHeld => ?_)
          clear hK K
          refine norm_ (a' := ?_) ?_ ?_
          rotate_left
          · show Act.put _ (some 112) _ = _
            simp only [Act.put, List.setIfInBounds_toArray, List.set_cons_zero, List.set_cons_succ, i64_w, i32_w]
            rfl
          refine pu_ 7 (N := some 105) #[true, true, true, true, true, true, true, true, false, false, false, false] HT_.out (h_ := ?_)
          refine pu_ 8 (N := some 113) #[true, true, true, true, true, true, true, true, true, false, false, false] HT_.out (h_ := ?_)
          refine pu_ 9 (N := some 114) #[true, true, true, true, true, true, true, true, true, true, false, false] HT_.out (h_ := ?_)
          refine pu_ 10 (N := some 17) #[true, true, true, true, true, true, true, true, true, true, true, false] HT_.out (h_ := ?_)
          refine pu_ 11 (N := some 18) #[true, true, true, true, true, true, true, true, true, true, true, true] HT_.out (h_ := ?_)
          refine done_ (done_of HT_.out (by kernel_rfl)) ?_
          go_upto_region 35 with (fail)
          go_cut [123] (fun v123 wc => ∃ (kq : Nat) (x123_115 : Bool), v123 = .bool x123_115 ∧ Aside0 (laws_FnExactWidenRow.j2 kq t162 t161 x123_115 = some r) ∧ Aside0 (kq ≤ kj83) ∧ Aside0 (Kd.R k41 41 wc w.heap.size (fun _ => True) (.slice Ao117 t139.length co117) t162) ∧ Aside0 (wc.heap[gb101]? = some (.cells #[.string a0_0, (.slice A0_1 l0_1.length c0_1), .int .i64 a0_2, (.slice A0_3 l0_3.length c0_3)] 25 (0, 0))) ∧ Aside0 (wc.heap[gb102]? = some (.cells #[.int .i64 a2_0, .int .i64 a2_1, .string a2_2] 28 (0, 0))) ∧ Aside0 (Below w.heap.size w wc))
          case first =>
            have H := HC116.out
            clear HC116
            replace H := Option.bind_eq_some_iff.mp H
            obtain ⟨t182, A1280, H⟩ := H
            have A128 := ak_ A1280
            clear A1280
            by_cases c129 : t182 = true
            · subst c129
              have H1 : (laws_FnExactWidenRow.j2 kj83 t162 t161 (t181 != t123)) = some r := by rw [if_pos rfl] at H; exact H
              clear H
              have H := H1
              clear H1
              have H' := ak_ H
              clear H
              obtain ⟨Ao130, co130, eo130⟩ := Kd.R_slice HO180.out
              subst eo130
              obtain ⟨Ao131, co131, eo131⟩ := Kd.R_slice HO_8.out
              subst eo131
              go_wp2_with (first | ((with_reducible refine gate_callee (f := 12) rfl ?_); refine goesL_ (some 117) rfl rfl Tryd.func12 (by kernel_rfl) rfl #[.slice Ao130 t178.length co130, .slice Ao131 t120.length co131] rfl z4_ ?_; (with_reducible refine (laws_eqValueS.calls kj83 _ _ t178 _ _ t120 true _ ?side1 ?side2 ?side3 ?side4 A128.out).mono ?_); (case side1 => repeat (first | exact (Kd.R_reads' HO180.out).2.2 | (with_reducible refine Kd.C_alloc ?_ _) | (with_reducible refine Kd.C_drewN ?_ _) | (with_reducible refine Kd.C_drew ?_))); (case side2 => exact (Kd.R_reads' HO180.out).2.1); (case side3 => repeat (first | exact (Kd.R_reads' HO_8.out).2.2 | (with_reducible refine Kd.C_alloc ?_ _) | (with_reducible refine Kd.C_drewN ?_ _) | (with_reducible refine Kd.C_drew ?_))); (case side4 => exact (Kd.R_reads' HO_8.out).2.1); rintro e w132 ⟨rfl, hb⟩; refine ⟨_, rfl, ?_⟩; have n_ := a9_ (Kd.R_below z23_ hb) (Kd.R_below z22_ hb) (Kd.R_below z53_ hb) (Kd.S_below z54_ hb) (Kd.R_below z55_ hb) (Kd.R_below (by (with_reducible repeat (first | apply Kd.R_alloc | apply Kd.R_drewN | apply Kd.R_drew)); exact HO180.out) hb) (blk_below (g := gb101) (o := .cells #[.string a0_0, .slice A0_1 l0_1.length c0_1, .int .i64 a0_2, .slice A0_3 l0_3.length c0_3] 25 (0, 0)) z2_ hb) (blk_below (g := gb102) (o := .cells #[.int .i64 a2_0, .int .i64 a2_1, .string a2_2] 28 (0, 0)) z5_ hb) (below_step z3_ hb); clear HO_8 HO_12 HO167 HO171 HO174 HO180 BK101 BK102 HB; obtain ⟨HO_8, HO_12, HO167, HO171, HO174, HO180, BK101, BK102, HB⟩ := n_; (try clear hb); (try clear hb2); (try clear hk); (try clear hi)))
              go_meet
              case rel => exact ⟨_, ((t181 != t123)), z9_, H', ⟨by have := HJ36.out; have := HJ83.out; first | omega | exact Nat.le_refl _⟩, ⟨by (with_reducible repeat (first | apply Kd.R_alloc | apply Kd.R_drewN | apply Kd.R_drew)); exact Kd.R_mono HO_12.out (fun _ hk => trivial)⟩, ⟨z2_⟩, ⟨z5_⟩, ⟨z3_⟩⟩
            replace c129 := Bool.eq_false_iff.mpr c129
            subst c129
            have H1 : (laws_FnExactWidenRow.j2 kj83 t162 t161 true) = some r := by rw [if_neg (show ¬ (false = true) by decide)] at H; exact H
            clear H
            have H := H1
            clear H1
            have H' := ak_ H
            clear H
            obtain ⟨Ao133, co133, eo133⟩ := Kd.R_slice HO180.out
            subst eo133
            obtain ⟨Ao134, co134, eo134⟩ := Kd.R_slice HO_8.out
            subst eo134
            go_wp2_with (first | ((with_reducible refine gate_callee (f := 12) rfl ?_); refine goesL_ (some 117) rfl rfl Tryd.func12 (by kernel_rfl) rfl #[.slice Ao133 t178.length co133, .slice Ao134 t120.length co134] rfl z4_ ?_; (with_reducible refine (laws_eqValueS.calls kj83 _ _ t178 _ _ t120 false _ ?side1 ?side2 ?side3 ?side4 A128.out).mono ?_); (case side1 => repeat (first | exact (Kd.R_reads' HO180.out).2.2 | (with_reducible refine Kd.C_alloc ?_ _) | (with_reducible refine Kd.C_drewN ?_ _) | (with_reducible refine Kd.C_drew ?_))); (case side2 => exact (Kd.R_reads' HO180.out).2.1); (case side3 => repeat (first | exact (Kd.R_reads' HO_8.out).2.2 | (with_reducible refine Kd.C_alloc ?_ _) | (with_reducible refine Kd.C_drewN ?_ _) | (with_reducible refine Kd.C_drew ?_))); (case side4 => exact (Kd.R_reads' HO_8.out).2.1); rintro e w135 ⟨rfl, hb⟩; refine ⟨_, rfl, ?_⟩; have n_ := a9_ (Kd.R_below z23_ hb) (Kd.R_below z22_ hb) (Kd.R_below z53_ hb) (Kd.S_below z54_ hb) (Kd.R_below z55_ hb) (Kd.R_below (by (with_reducible repeat (first | apply Kd.R_alloc | apply Kd.R_drewN | apply Kd.R_drew)); exact HO180.out) hb) (blk_below (g := gb101) (o := .cells #[.string a0_0, .slice A0_1 l0_1.length c0_1, .int .i64 a0_2, .slice A0_3 l0_3.length c0_3] 25 (0, 0)) z2_ hb) (blk_below (g := gb102) (o := .cells #[.int .i64 a2_0, .int .i64 a2_1, .string a2_2] 28 (0, 0)) z5_ hb) (below_step z3_ hb); clear HO_8 HO_12 HO167 HO171 HO174 HO180 BK101 BK102 HB; obtain ⟨HO_8, HO_12, HO167, HO171, HO174, HO180, BK101, BK102, HB⟩ := n_; (try clear hb); (try clear hb2); (try clear hk); (try clear hi)))
            go_meet
            case rel => exact ⟨_, (true), z9_, H', ⟨by have := HJ36.out; have := HJ83.out; first | omega | exact Nat.le_refl _⟩, ⟨by (with_reducible repeat (first | apply Kd.R_alloc | apply Kd.R_drewN | apply Kd.R_drew)); exact Kd.R_mono HO_12.out (fun _ hk => trivial)⟩, ⟨z2_⟩, ⟨z5_⟩, ⟨z3_⟩⟩
          case rest =>
            clear HC116
            try clear c1
            try clear c2
            try clear p2
            try clear c3
            try clear c4
            try clear c5
            try clear c5b0
            try clear c6
            try clear c7
            try clear c8
            try clear c9
            try clear c10
            try clear c11
            try clear c12
            try clear c12b0
            try clear c13
            try clear c14
            try clear c15
            try clear c16
            try clear c20
            try clear c20b0
            try clear c23
            try clear c40
            try clear c57
            try clear c58
            try clear c68
            try clear c75
            try clear c78
            try clear c81
            try clear c93
            try clear c94
            try clear c98
            try clear c98b0
            try clear c100
            try clear c107
            try clear c110
            try clear c110b0
            try clear c111
            try clear c111b0
            try clear c111b1
            try clear c129
            try clear hcz16_0
            try clear hcz16_1
            try clear hcz16_2
            try clear hcz16_3
            try clear hcz24_0
            try clear hcz24_1
            try clear hcz24_2
            try clear hcz24_3
            try clear hcz27_0
            try clear hcz27_1
            try clear hcz27_2
            try clear hcz41_0
            try clear hcz41_1
            try clear hcz41_2
            try clear hcz41_3
            try clear hcz44_0
            try clear hcz44_1
            try clear hcz44_2
            try clear hcz54_0
            try clear hcz54_1
            try clear hcz54_2
            try clear hcz54_3
            try clear hcz59_0
            try clear hcz59_1
            try clear hcz59_2
            try clear hcz59_3
            try clear hcz95_0
            try clear hcz95_1
            try clear hcz95_2
            try clear hcz95_3
            try clear hcz9_0
            try clear hcz9_1
            try clear hcz9_2
            try clear hcz9_3
            try clear hfz16_0
            try clear hfz16_1
            try clear hfz16_2
            try clear hfz16_3
            try clear hfz24_0
            try clear hfz24_1
            try clear hfz24_2
            try clear hfz24_3
            try clear hfz27_0
            try clear hfz27_1
            try clear hfz27_2
            try clear hfz41_0
            try clear hfz41_1
            try clear hfz41_2
            try clear hfz41_3
            try clear hfz44_0
            try clear hfz44_1
            try clear hfz44_2
            try clear hfz54_0
            try clear hfz54_1
            try clear hfz54_2
            try clear hfz54_3
            try clear hfz59_0
            try clear hfz59_1
            try clear hfz59_2
            try clear hfz59_3
            try clear hfz95_0
            try clear hfz95_1
            try clear hfz95_2
            try clear hfz95_3
            try clear hfz9_0
            try clear hfz9_1
            try clear hfz9_2
            try clear hfz9_3
            try clear p2
            obtain ⟨kq, x123_115, rfl, HA, HJ115, HO_12, BK101, BK102, HB⟩ := hcut
            have hl12_115 := (Kd.R_reads' HO_12.out).1
            rw [hl12_115] at HO_12
            (try simp only [hl12_115])
            (try simp only [hl12_115] at BK101)
            (try simp only [hl12_115] at BK102)
            cases kq with
            | zero => exact absurd HA.out (by simp [laws_FnExactWidenRow.j2])
            | succ kj115 =>
              have H := HA.out
              clear HA
              simp only [laws_FnExactWidenRow.j2] at H
              by_cases c136 : x123_115 = true
              · subst c136
                have H1 : (none) = some r := by rw [if_pos rfl] at H; exact H
                clear H
                have H := H1
                clear H1
                exact absurd H (by simp)
              replace c136 := Bool.eq_false_iff.mpr c136
              subst c136
              have H1 : ((laws_heldValueS.f kj115 t162 1).bind fun t183 => (if t183 < 0 then (none) else (if t183 = t161 then (some true) else (none)))) = some r := by rw [if_neg (show ¬ (false = true) by decide)] at H; exact H
              clear H
              have H := H1
              clear H1
              replace H := Option.bind_eq_some_iff.mp H
              obtain ⟨t183, A1370, H⟩ := H
              have A137 := ak_ A1370
              clear A1370
              by_cases c138 : t183 < 0
              · rw [if_pos c138] at H
                exact absurd H (by simp)
              rw [if_neg c138] at H
              have c138b0 := decide_eq_false c138
              clear c138
              by_cases c139 : t183 = t161
              rotate_left
              · rw [if_neg c139] at H
                exact absurd H (by simp)
              rw [if_pos c139] at H
              have c139b0 : (t183 == t161) = true := beq_iff_eq.mpr c139
              have c139b1 : (t183 != t161) = false := bne_eq_false_iff_eq.mpr c139
              clear c139
              obtain rfl := Option.some.inj H
              go_wp2_with (first | ((with_reducible refine gate_callee (f := 16) rfl ?_); refine goesL_ (some 126) rfl rfl Tryd.func16 (by kernel_rfl) rfl #[.slice Ao117 t162.length co117, .int .i64 1] rfl z4_ ?_; (with_reducible refine (laws_heldValueS.calls kj115 _ _ t162 1 t183 _ ?side1 ?side2 A137.out).mono ?_); (case side1 => repeat (first | exact (Kd.R_reads' HO_12.out).2.2 | (with_reducible refine Kd.C_alloc ?_ _) | (with_reducible refine Kd.C_drewN ?_ _) | (with_reducible refine Kd.C_drew ?_))); (case side2 => exact (Kd.R_reads' HO_12.out).2.1); rintro e w140 ⟨rfl, hb⟩; refine ⟨_, rfl, ?_⟩; have n_ := a4_ (Kd.R_below z22_ hb) (blk_below (g := gb101) (o := .cells #[.string a0_0, .slice A0_1 l0_1.length c0_1, .int .i64 a0_2, .slice A0_3 l0_3.length c0_3] 25 (0, 0)) z2_ hb) (blk_below (g := gb102) (o := .cells #[.int .i64 a2_0, .int .i64 a2_1, .string a2_2] 28 (0, 0)) z5_ hb) (below_step z3_ hb); clear HO_12 BK101 BK102 HB; obtain ⟨HO_12, BK101, BK102, HB⟩ := n_; (try clear hb); (try clear hb2); (try clear hk); (try clear hi)))
              go_ret
              exact ⟨z6_, z3_⟩
end Go.Proofs.YtfbclbbhomhfaaaDoor.X
