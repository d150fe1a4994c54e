/- Contracts of functions, and what is told of them. -/
import Derived.Test.YtfagildjbhcnlaaDoorYFnKeys4
-- WRITTEN BY xprint.py, a program of this session, over the translation of the seat. Lean checks it.
namespace Go.Proofs.YtfagildjbhcnlaaDoor.X
open Go.RowKit Go.Proofs.YtfagildjbhcnlaaDoorW.PrintWords Go.Proofs.YtfagildjbhcnlaaDoorW.PrintLast Go.Proofs.YtfagildjbhcnlaaDoorW.PrintMore
attribute [local go_sem] max2_int min2_int max_two min_two max_three min_three max_four min_four   -- for this text's walks alone
set_option linter.unusedVariables false
set_option linter.unusedSimpArgs false

/-! ### strings_ReplaceAll: function 27 -/
-- XIMP Derived.Test.YtfagildjbhcnlaaDoorShelf
-- XIMP Derived.Shelf.Strings.Replace
def repB (b : UInt8) (t : List UInt8) : List UInt8 → List UInt8
  | [] => []
  | c :: l => if c == b then t ++ repB b t l else c :: repB b t l
theorem repB_none (b : UInt8) (t : List UInt8) : ∀ l : List UInt8, Lib.countByte l b = 0 → repB b t l = l
  | [], _ => rfl
  | c :: l, h => by
    unfold Lib.countByte at h
    rw [List.count_cons] at h
    by_cases hc : (c == b) = true
    · rw [if_pos hc] at h; omega
    · rw [repB, if_neg hc, repB_none b t l (by unfold Lib.countByte; omega)]
theorem repB_hit (b : UInt8) (t : List UInt8) : ∀ (l : List UInt8) (g : Nat), Lib.countByte l b = g + 1 → ∃ j : Nat, Lib.indexByte l b = j ∧ j < l.length ∧ repB b t l = l.take j ++ t ++ repB b t (l.drop (j + 1)) ∧ Lib.countByte (l.drop (j + 1)) b = g
  | [], g, h => by simp [Lib.countByte] at h
  | c :: l, g, h => by
    unfold Lib.countByte at h
    rw [List.count_cons] at h
    by_cases hc : (c == b) = true
    · rw [if_pos hc] at h
      refine ⟨0, by simp [Lib.indexByte, hc], by simp, ?_, ?_⟩
      · simp [repB, hc]
      · unfold Lib.countByte; simpa using h
    · rw [if_neg hc] at h
      obtain ⟨j, h1, h2, h3, h4⟩ := repB_hit b t l g (by unfold Lib.countByte; omega)
      refine ⟨j + 1, ?_, by simp; omega, ?_, ?_⟩
      · unfold Lib.indexByte
        rw [if_neg hc, h1, if_neg (by simp)]; try rfl
      · rw [repB, if_neg hc, h3]; simp
      · simpa using h4
set_option maxHeartbeats 16000000 in
set_option maxRecDepth 1000000 in
theorem strings_Replace.some_ {P : Program} {ρ : Go.Shelf.Ren} (L : Go.Proofs.Lays.n154 P ρ) (X : Go.Proofs.Builder.Extra P ρ) (s old new : ByteArray) (b : UInt8) (K : Nat) (w : World) (hs : s.size < 4294967281) (ho : old.size = 1) (hne : old ≠ new)
    (hC : Calls P (ρ.f 138) #[.string s, .string old] w fun e w' => e = .returned (.int .i64 K) ∧ w' = w)
    (hI : ∀ x w2, Calls P (ρ.f 143) #[.string x, .string old] w2 fun e w' => e = .returned (.int .i64 (Lib.indexByte x.data.toList b)) ∧ w' = w2)
    (hK : Lib.countByte s.data.toList b = K) (hK0 : 1 ≤ K) (hKs : K ≤ s.size) (hlen : s.size + K * new.size ≤ 140737488355328) :
    Calls P (ρ.f 154) #[.string s, .string old, .string new, .int .i64 (-1)] w fun e w' => e = .returned (.string ⟨(repB b new.data.toList s.data.toList).toArray⟩) ∧ Below w.heap.size w w' := by
  have hbeq : (old.toList == new.toList) = false := (Lib.bytes_beq_false_iff old new).2 hne
  have hcz : ((K : Int) == 0) = false := beq_eq_false_iff_ne.2 (by omega)
  have hlenL : s.data.toList.length = s.size := (Lib.size_eq s).symm
  have hga := Lib.grow_arg s.size K new.size old.size hK0 (by rw [ho]; omega) hlen
  have hod : decide (0 < old.size) = true := decide_eq_true (by omega)
  have HO := Aside0.mk ho
  clear ho
  have mixed := L.mixed
  have t72 := L.t72; have a72 := L.a72; have z72 := L.z72; have v72 := L.v72; have u72 := run_underlying L.t72
  have t70 := L.t70; have a70 := L.a70; have z70 := L.z70; have v70 := L.v70; have u70 := run_underlying L.t70
  have t37 := L.t37; have a37 := L.a37; have z37 := L.z37; have v37 := L.v37; have u37 := run_underlying L.t37
  have t3 := L.t3; have a3 := L.a3; have z3 := L.z3; have v3 := L.v3; have u3 := run_underlying L.t3
  have t9 := L.t9; have a9 := L.a9; have z9 := L.z9; have v9 := L.v9; have u9 := run_underlying L.t9
  have t4 := L.t4; have a4 := L.a4; have z4 := L.z4; have v4 := L.v4; have u4 := run_underlying L.t4
  have e138 : ∀ args w, (callFunc (ρ.f 138) args).run P w = .ok (.enter (ρ.f 138) args) w := enters_of L.f138 (by kernel_rfl) rfl
  have e143 : ∀ args w, (callFunc (ρ.f 143) args).run P w = .ok (.enter (ρ.f 143) args) w := enters_of L.f143 (by kernel_rfl) rfl
  have e165 : ∀ args w, (callFunc (ρ.f 165) args).run P w = .ok (.enter (ρ.f 165) args) w := enters_of L.f165 (by kernel_rfl) rfl
  have e166 : ∀ args w, (callFunc (ρ.f 166) args).run P w = .ok (.enter (ρ.f 166) args) w := enters_of L.f166 (by kernel_rfl) rfl
  have e169 : ∀ args w, (callFunc (ρ.f 169) args).run P w = .ok (.enter (ρ.f 169) args) w := enters_of L.f169 (by kernel_rfl) rfl
  go_enter L.f154, Go.Proofs.Body.n154_ntmps ρ
  go_wp2_with (first | (go_at_fn (ρ.f 138); refine hC.mono ?_; rintro e w' ⟨rfl, hw⟩; rw [hw]))
  clear hC
  rw [hga]
  refine (Any.Builder_Grow_fresh { L with } X w.heap.size w.heap.size _ _ (Nat.le_refl _) (heap_alloc_new w _) (by simp) (by omega)).mono ?_
  rintro e w1 ⟨rfl, hb0, hb1⟩
  have H1 := Aside0.mk (Or.inr hb0 : Lib.IsBuilder (ρ.t 72) (ρ.t 5) w.heap.size w.heap.size (Lib.byteCells []) w1)
  have Hb1 := Aside0.mk (((Below.refl w.heap.size w).alloc (Nat.le_refl _) _).trans hb1)
  clear hb0 hb1 hga
  go_wp2_with fail
  go_loopg [11, 53] K (fun g s11 s53 wx => ∃ (i p : Nat) (acc : List UInt8), s53 = .int .i64 i ∧ s11 = .int .i64 p ∧ i + g = K ∧ p ≤ s.size ∧
    Aside0 (Lib.IsBuilder (ρ.t 72) (ρ.t 5) w.heap.size w.heap.size (Lib.byteCells acc) wx) ∧ Aside0 (Below w.heap.size w wx) ∧ Aside0 (acc ++ repB b new.data.toList (s.data.toList.drop p) = repB b new.data.toList s.data.toList) ∧
    Lib.countByte (s.data.toList.drop p) b = g ∧ acc.length + (s.size - p) + g * new.size ≤ s.size + K * new.size)
  case atStart => exact ⟨0, 0, [], rfl, rfl, by omega, Nat.zero_le _, H1, Hb1, Aside0.mk (by simp), by simpa using hK, by simp⟩
  case round =>
    obtain ⟨i, p, acc, rfl, rfl, hig, hp, HB, HW, HR, hg, hbd⟩ := hrel
    have hBw : w.heap.size ≤ wr.heap.size := HW.out.size
    have c1 : (0 : Int) ≤ (p : Int) := by omega
    have c2 : (p : Int) ≤ (s.size : Int) := by omega
    cases gk with
    | zero =>
      have hiK : ¬ ((i : Int) < (K : Int)) := by omega
      go_wp2_with fail
      refine (Any.Builder_WriteString { L with } X w.heap.size w.heap.size _ _ wr HB.out (by rw [Lib.byteCells_length, ByteArray.size_extract]; omega) hBw).mono ?_
      rintro e w3 ⟨rfl, h3, hb3⟩
      rw [Lib.strCells_eq, Lib.extract_to_end, ← Lib.byteCells_append] at h3
      have hfin : acc ++ s.data.toList.drop p = repB b new.data.toList s.data.toList := by rw [← HR.out, repB_none b _ _ hg]
      rw [hfin] at h3
      have H3 := Aside0.mk (Or.inr h3 : Lib.IsBuilder (ρ.t 72) (ρ.t 5) w.heap.size w.heap.size _ w3)
      have Hb3 := Aside0.mk (HW.out.trans hb3)
      have hBw3 : w.heap.size ≤ w3.heap.size := Hb3.out.size
      clear h3 hb3 hfin
      go_wp2_with fail
      refine (Any.Builder_String_any { L with } X w.heap.size w.heap.size _ w3 H3.out hBw3).mono ?_
      rintro e w5 ⟨rfl, hb5⟩
      have Hb5 := Aside0.mk (Hb3.out.trans hb5)
      clear hb5
      go_wp2
      go_ret
      exact ⟨rfl, Hb5.out⟩
    | succ g =>
      have hiK : (i : Int) < (K : Int) := by omega
      obtain ⟨j, hj, hjl, hrep, hcnt⟩ := repB_hit b new.data.toList (s.data.toList.drop p) g hg
      have hroom : j + 1 ≤ s.size - p := by rw [List.length_drop, hlenL] at hjl; omega
      have hsucc : (g + 1) * new.size = g * new.size + new.size := Nat.succ_mul _ _
      have c3 : (p : Int) ≤ (p : Int) + (j : Int) := by omega
      have c4 : (p : Int) + (j : Int) ≤ (s.size : Int) := by omega
      have Hn := Aside0.mk (show Lib.byteCells acc ++ Lib.strCells (s.extract p (p + j)) ++ Lib.strCells new = Lib.byteCells (acc ++ (s.data.toList.drop p).take j ++ new.data.toList) by
        rw [Lib.strCells_eq, Lib.strCells_eq, Lib.extract_data, Nat.add_sub_cancel_left, ← Lib.byteCells_append, ← Lib.byteCells_append])
      have Hrep := Aside0.mk (show (acc ++ (s.data.toList.drop p).take j ++ new.data.toList) ++ repB b new.data.toList (s.data.toList.drop (p + j + old.size)) = repB b new.data.toList s.data.toList by
        rw [← HR.out, hrep, List.drop_drop, HO.out]
        simp only [List.append_assoc, Nat.add_assoc])
      have Hcnt := Aside0.mk (show Lib.countByte (s.data.toList.drop (p + j + old.size)) b = g by rw [HO.out, show p + j + 1 = p + (j + 1) by omega, ← List.drop_drop]; exact hcnt)
      have htl : ((s.data.toList.drop p).take j).length = j := by rw [List.length_take, List.length_drop, hlenL]; omega
      clear hrep hcnt HR
      go_wp2_with (first | (go_at_fn (ρ.f 143); refine (hI _ _).mono ?_; rintro e w' ⟨rfl, hw⟩; rw [hw, Lib.extract_to_end, hj]))
      refine (Any.Builder_WriteString { L with } X w.heap.size w.heap.size _ (s.extract p (p + j)) wr HB.out (by rw [Lib.byteCells_length, ByteArray.size_extract]; omega) hBw).mono ?_
      rintro e w3 ⟨rfl, h3, hb3⟩
      have hBw3 : w.heap.size ≤ w3.heap.size := Nat.le_trans hBw hb3.size
      have H3 := Aside0.mk h3
      have Hb3 := Aside0.mk hb3
      clear h3 hb3
      go_wp2_with fail
      refine (Any.Builder_WriteString { L with } X w.heap.size w.heap.size _ new w3 (Or.inr H3.out) (by rw [List.length_append, Lib.byteCells_length, Lib.strCells_length, ByteArray.size_extract]; omega) hBw3).mono ?_
      rintro e w4 ⟨rfl, h4, hb4⟩
      rw [Hn.out] at h4
      have H4 := Aside0.mk (Or.inr h4 : Lib.IsBuilder (ρ.t 72) (ρ.t 5) w.heap.size w.heap.size _ w4)
      have Hb4 := Aside0.mk ((HW.out.trans Hb3.out).trans hb4)
      clear h4 hb4
      go_wp2
      have ho := HO.out
      go_roundg g
      case measure => omega
      case rel => exact ⟨i + 1, p + j + old.size, _, by first | rfl | (simp; unfold wrap64; omega), by first | rfl | (simp; done) | (simp; unfold wrap64; omega), by omega, by omega, H4, Hb4, Hrep, Hcnt.out, by simp only [List.length_append, htl, ← Lib.size_eq]; omega⟩
set_option maxHeartbeats 4000000 in
set_option maxRecDepth 1000000 in
theorem strings_Replace.none_ {P : Program} {ρ : Go.Shelf.Ren} (L : Go.Proofs.Lays.n154 P ρ) (s old new : ByteArray) (w : World) (hne : old ≠ new)
    (hC : Calls P (ρ.f 138) #[.string s, .string old] w fun e w' => e = .returned (.int .i64 (0 : Nat)) ∧ w' = w) :
    Calls P (ρ.f 154) #[.string s, .string old, .string new, .int .i64 (-1)] w fun e w' => e = .returned (.string s) ∧ Below w.heap.size w w' := by
  have hbeq : (old.toList == new.toList) = false := (Lib.bytes_beq_false_iff old new).2 hne
  have t3 := L.t3; have a3 := L.a3; have z3 := L.z3; have v3 := L.v3
  have t9 := L.t9; have a9 := L.a9; have z9 := L.z9; have v9 := L.v9
  have t4 := L.t4; have a4 := L.a4; have z4 := L.z4; have v4 := L.v4
  have e138 : ∀ args w, (callFunc (ρ.f 138) args).run P w = .ok (.enter (ρ.f 138) args) w := enters_of L.f138 (by kernel_rfl) rfl
  go_enter L.f154, Go.Proofs.Body.n154_ntmps ρ
  go_wp2_with (first | (go_at_fn (ρ.f 138); refine hC.mono ?_; rintro e w' ⟨rfl, hw⟩; rw [hw]))
  go_ret
  exact ⟨rfl, Below.refl _ _⟩
def strings_ReplaceAll.f (a0 : ByteArray) (a1 : ByteArray) (a2 : ByteArray) : Option ByteArray := if a1.size = 1 ∧ a1 ≠ a2 ∧ a0.size < 4294967281 ∧ a2.size ≤ 1000 then some ⟨(repB (a1.data.getD 0 0) a2.data.toList a0.data.toList).toArray⟩ else none
set_option maxHeartbeats 4000000 in
set_option maxRecDepth 1000000 in
theorem strings_ReplaceAll.calls (a0 : ByteArray) (a1 : ByteArray) (a2 : ByteArray) (r : ByteArray) (w : World) (h : strings_ReplaceAll.f a0 a1 a2 = some r) :
    Calls Tryd.prog 27 #[.string a0, .string a1, .string a2] w fun e w' => e = .returned (.string r) ∧ Below w.heap.size w w' := by
  unfold strings_ReplaceAll.f at h
  by_cases hc : a1.size = 1 ∧ a1 ≠ a2 ∧ a0.size < 4294967281 ∧ a2.size ≤ 1000
  case neg => rw [if_neg hc] at h; cases h
  rw [if_pos hc] at h
  obtain rfl := Option.some.inj h
  obtain ⟨h1, hne, hs, h2⟩ := hc
  obtain ⟨b, rfl⟩ := Lib.one_byte a1 h1
  have L := Tryd.lays155
  have hC := Any.strings_Count_one (ρ := Tryd.lays155_ren) { L with } a0 b w
  have hle : Lib.countByte a0.data.toList b ≤ a0.size := by rw [Lib.size_eq]; exact List.count_le_length
  have c : Calls Tryd.prog 39 #[.string a0, .string ⟨#[b]⟩, .string a2, .int .i64 (-1)] w fun e w' => e = .returned (.string ⟨(repB b a2.data.toList a0.data.toList).toArray⟩) ∧ Below w.heap.size w w' := by
    by_cases hk : Lib.countByte a0.data.toList b = 0
    · rw [hk] at hC
      refine (strings_Replace.none_ (ρ := Tryd.lays155_ren) { L with } a0 ⟨#[b]⟩ a2 w hne hC).mono ?_
      rintro e w' ⟨rfl, hw⟩
      exact ⟨by rw [repB_none b _ _ hk, Lib.mk_data], hw⟩
    · exact strings_Replace.some_ (ρ := Tryd.lays155_ren) { L with } Tryd.Builder_Extra_155 a0 ⟨#[b]⟩ a2 b _ w hs rfl hne hC (fun x w2 => Any.strings_Index_one (ρ := Tryd.lays155_ren) { L with } x b w2) rfl (by omega) hle (by
        have : Lib.countByte a0.data.toList b * a2.size ≤ 4294967281 * 1000 := Nat.mul_le_mul (by omega) h2
        omega)
  go_enter Tryd.func27, Tryd.ntmps27
  go_wp2_with (go_at_call 39; refine c.mono ?_; rintro e w' ⟨rfl, hw⟩)
  go_ret
  exact ⟨rfl, hw⟩

end Go.Proofs.YtfagildjbhcnlaaDoor.X
