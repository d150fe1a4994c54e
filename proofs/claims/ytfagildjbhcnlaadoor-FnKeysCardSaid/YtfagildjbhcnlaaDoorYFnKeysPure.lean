/- Key bytes rise as rows do, and rows are read back from them. -/
import Derived.Test.YtfagildjbhcnlaaDoorYFnKeys17
namespace Go.Proofs.YtfagildjbhcnlaaDoor.Pure
open Go.RowKit Go.Proofs.YtfagildjbhcnlaaDoor.X Go.Proofs.YtfagildjbhcnlaaDoorW.PrintWords Go.Proofs.YtfagildjbhcnlaaDoorW.PrintLast
set_option linter.unusedVariables false
set_option linter.unusedSimpArgs false
theorem vals_l0 (c : List Int) : ∀ (n : Nat) (acc : List S43) (a s B : Int), Src c a s B → B + 20 * n ≤ 4611686018427387904 → acc.length + n ≤ 1000 → (∀ v ∈ acc, gval v) →
    ∃ V a' s', (∀ v ∈ V, gval v) ∧ V.length = acc.length + n ∧ Ev (fun k => spec_l00Src_values.l0 k acc (n : Int) c a s) (V, a', s')
  | 0, acc, a, s, B, h, hB, hl, hg => ⟨acc, a, s, hg, rfl, Ev.step (f := fun _ => some (acc, a, s)) (fun k => by rw [spec_l00Src_values.l0, if_neg (by omega)]) (Ev.now _)⟩
  | n + 1, acc, a, s, B, h, hB, hl, hg => by
    obtain ⟨x, y, t, a', s', e, h1, h2, h3, h4, h5, hs⟩ := src_value h (by omega) 0
    have e := Ev.of (g := fun k => spec_l00Src_value.f k c a s) (fun k => spec_l00Src_value.mono c a s k) e
    obtain ⟨V, a2, s2, g1, g2, g3⟩ := vals_l0 c n (acc ++ [⟨x, y, t⟩]) a' s' (B + 15) hs (by omega) (by rw [List.length_append, List.length_singleton]; omega) (fun v hv => by
      rcases List.mem_append.1 hv with hv | hv
      · exact hg v hv
      · rw [List.mem_singleton.1 hv]; exact ⟨h1, h2⟩)
    refine ⟨V, a2, s2, g1, by rw [g2, List.length_append, List.length_singleton]; omega, ?_⟩
    refine Ev.step (fun k => by rw [spec_l00Src_values.l0, if_pos (by omega), show wrap64 (((n + 1 : Nat) : Int) - 1) = (n : Int) by unfold wrap64; omega]) ?_
    refine Ev.bind e ?_
    exact Ev.congr (fun k => by rw [if_pos (by omega)]) g3
theorem row_of (c : List Int) (h : ∀ x ∈ c, (Lit.int .u8 x).wf = true) : ∃ V : List S43, (∀ v ∈ V, gval v) ∧ V.length ≤ 4 ∧ Ev (fun k => spec_RowOf.f k c) V := by
  obtain ⟨r, a', s', e, r0, r1, hs⟩ := src_next (src_new h) (by omega) 5
  obtain ⟨n, rfl⟩ : ∃ n : Nat, r = (n : Int) := ⟨r.toNat, by omega⟩
  obtain ⟨V, a2, s2, g1, g2, g3⟩ := vals_l0 c n [] a' s' 3 hs (by omega) (by rw [List.length_nil]; omega) (fun v hv => by cases hv)
  refine ⟨V, g1, by rw [g2, List.length_nil]; omega, ?_⟩
  refine Ev.congr (fun k => by unfold spec_RowOf.f spec_l00Source.f spec_l00Src_values.f; rw [Option.bind_some, e, Option.bind_some]) ?_
  refine Ev.bind g3 ?_
  exact Ev.now _
theorem same_l0 (V : List S43) (hV : V.length ≤ 1000) : ∀ d i, i + d = V.length → Ev (fun k => laws_sameRow.l0 k V V (i : Int)) true
  | 0, i, h => Ev.step (f := fun _ => some true) (fun k => by rw [laws_sameRow.l0, if_neg (by omega)]) (Ev.now _)
  | d + 1, i, h => by
    have hlt : i < V.length := by omega
    exact Ev.step (fun k => by rw [laws_sameRow.l0, if_pos (by omega), if_pos (by omega), if_pos (by omega), if_neg (by simp), next64 i V.length hlt (by simp only [maxLen]; omega)]) (same_l0 V hV d (i + 1) (by omega))
theorem same_is (V : List S43) (hV : V.length ≤ 1000) : Ev (fun k => laws_sameRow.f k V V) true :=
  Ev.congr (fun k => by unfold laws_sameRow.f; rw [if_pos rfl]; rfl) (same_l0 V hV V.length 0 (by omega))
theorem str_mp (x : List Int) : (strOfNums x).toList = mp x := by unfold strOfNums; rw [toList_mk]; rfl
theorem key_impl (V : List S43) (hv : ∀ v ∈ V, gval v) (hl : V.length ≤ 8) : Ev (fun k => impl_KeyBytes.f k V) (kb V, 0) := by
  refine Ev.congr (fun k => by unfold impl_KeyBytes.f; rw [if_neg (by omega), impl_row, Option.bind_some, if_pos (rowok_g V hv hl)]) ?_
  refine Ev.bind (impl_key V (by omega) hv) ?_
  exact Ev.now _
theorem key_spec (V : List S43) (hv : ∀ v ∈ V, gval v) (hl : V.length ≤ 8) : Ev (fun k => spec_KeyBytes.f k V) (kb V, 0) := by
  refine Ev.congr (fun k => by unfold spec_KeyBytes.f; rw [if_neg (by omega)]) ?_
  refine Ev.bind (Ev.of (g := fun k => spec_l01Row.f k V) (fun k => spec_l01Row.mono V k) (spec_row V (by omega) _ (Nat.lt_succ_self _))) ?_
  refine Ev.congr (fun k => by rw [if_pos (rowok_g V hv hl)]) ?_
  refine Ev.bind (spec_key V (by omega) hv) ?_
  exact Ev.now _
theorem cmp_rows (V W : List S43) (hv : ∀ v ∈ V, gval v) (hl : V.length ≤ 8) (hw : ∀ v ∈ W, gval v) (hm : W.length ≤ 8) : Ev (fun k => impl_CompareRows.f k V W) (cmpL V W, 0) := by
  refine Ev.congr (fun k => by unfold impl_CompareRows.f; rw [if_neg (by omega), decide_eq_false (by omega)]) ?_
  refine Ev.step (fun k => by rw [impl_CompareRows.j0, if_neg (by decide), impl_row, Option.bind_some, if_pos (rowok_g V hv hl), impl_row, Option.bind_some, if_pos (rowok_g W hw hm)]) ?_
  refine Ev.bind (row_is V W (by omega)) ?_
  exact Ev.now _
theorem keys_end (V W : List S43) (hv : ∀ v ∈ V, gval v) (hl : V.length ≤ 8) (hw : ∀ v ∈ W, gval v) (hm : W.length ≤ 8) : Ev (fun k => laws_FnKeys.j2 k V W) true := by
  refine Ev.step (fun k => by rw [laws_FnKeys.j2]) ?_
  refine Ev.bind (key_impl V hv hl) ?_
  refine Ev.bind (key_impl W hw hm) ?_
  refine Ev.bind (key_spec V hv hl) ?_
  refine Ev.bind (read_key V hv hl) ?_
  refine Ev.bind (cmp_rows V W hv hl hw hm) ?_
  refine Ev.congr (f := fun k => (laws_sameRow.f k V V).bind fun t => if t = true then (if (Op.bytesLess ((strOfNums (kb V)).toList) ((strOfNums (kb W)).toList) == decide (cmpL V W < 0)) = true then some (((strOfNums (kb V)).toList == (strOfNums (kb W)).toList) == (cmpL V W == 0)) else none) else none) (fun k => by dsimp only; simp only [if_true]) ?_
  refine Ev.bind (same_is V (by omega)) ?_
  have H : (Op.bytesLess ((strOfNums (kb V)).toList) ((strOfNums (kb W)).toList) == decide (cmpL V W < 0)) = true ∧ (((strOfNums (kb V)).toList == (strOfNums (kb W)).toList) == (cmpL V W == 0)) = true := by
    rw [str_mp, str_mp]
    rcases rows_cmp V W hv hw with ⟨a, b, c⟩ | ⟨a, rfl⟩ | ⟨a, b, c⟩
    · rw [b, decide_eq_true a, beq_eq_false_iff_ne.2 c, beq_eq_false_iff_ne.2 (show cmpL V W ≠ 0 by omega)]; exact ⟨rfl, rfl⟩
    · rw [bl_irrefl, a]; exact ⟨rfl, by simp⟩
    · rw [b, decide_eq_false (show ¬ cmpL V W < 0 by omega), beq_eq_false_iff_ne.2 c, beq_eq_false_iff_ne.2 (show cmpL V W ≠ 0 by omega)]; exact ⟨rfl, rfl⟩
  exact Ev.congr (f := fun _ => some true) (fun k => by rw [if_pos rfl, if_pos H.1, H.2]) (Ev.now _)
theorem FnKeys : laws_FnKeys.Need := by
  intro C M hC hM
  apply Ev.rounds
  have skip : Ev (fun k => laws_FnKeys.j0 k C M true) true := Ev.step (f := fun _ => some true) (fun k => by rw [laws_FnKeys.j0, if_pos rfl]) (Ev.now _)
  by_cases c1 : (C.length : Int) > 1048576
  · exact Ev.congr (fun k => by unfold laws_FnKeys.f; rw [if_pos c1]) skip
  by_cases c2 : (M.length : Int) > 1048576
  · exact Ev.congr (fun k => by unfold laws_FnKeys.f; rw [if_neg c1, decide_eq_true c2]) skip
  obtain ⟨V, v1, v2, v3⟩ := row_of C hC.2
  obtain ⟨W, w1, w2, w3⟩ := row_of M hM.2
  obtain ⟨r, r1, r2, r3⟩ := at_some hM.2 0 3 (by omega) (by omega) (by omega) (by omega)
  refine Ev.congr (fun k => by unfold laws_FnKeys.f; rw [if_neg c1, decide_eq_false c2]) ?_
  refine Ev.step (fun k => by rw [laws_FnKeys.j0, if_neg (by decide)]) ?_
  refine Ev.bind v3 ?_
  refine Ev.bind w3 ?_
  refine Ev.congr (fun k => by rw [r1, Option.bind_some]) ?_
  have plain : Ev (fun k => laws_FnKeys.j1 k V W false) true := Ev.step (fun k => by rw [laws_FnKeys.j1, if_neg (by decide)]) (keys_end V W v1 (by omega) w1 (by omega))
  by_cases c3 : r = 0
  · refine Ev.congr (fun k => by rw [if_pos c3]) ?_
    by_cases c4 : (V.length : Int) > 0
    · refine Ev.congr (fun k => by rw [if_pos c4, show wrap64 ((V.length : Int) + (W.length : Int)) = (V.length : Int) + (W.length : Int) by unfold wrap64; omega]) ?_
      by_cases c5 : (V.length : Int) + (W.length : Int) ≤ 8
      · have hw : wrap64 ((V.length : Int) - 1) = (V.length : Int) - 1 := by unfold wrap64; omega
        have hl : (V.take ((V.length : Int) - 1).toNat).length ≤ V.length := by rw [List.length_take]; omega
        refine Ev.step (f := fun k => laws_FnKeys.j2 k V (V.take ((V.length : Int) - 1).toNat ++ W)) (fun k => ?_) (keys_end V (V.take ((V.length : Int) - 1).toNat ++ W) v1 (by omega) (fun x hx => by
          rcases List.mem_append.1 hx with hx | hx
          · exact v1 x (List.mem_of_mem_take hx)
          · exact w1 x hx) (by rw [List.length_append]; omega))
        rw [decide_eq_true c5, laws_FnKeys.j1, if_pos rfl, Option.bind_some, hw, if_pos (by omega), if_pos (by omega), Option.bind_some, List.length_nil, if_pos (by omega), Option.bind_some, List.nil_append, if_pos (by omega)]
      · rw [decide_eq_false c5]; exact plain
    · exact Ev.congr (fun k => by rw [if_neg c4]) plain
  · exact Ev.congr (fun k => by rw [if_neg c3]) plain
end Go.Proofs.YtfagildjbhcnlaaDoor.Pure
