/- The program's key bytes of an index of a row are the reference's, in memory of their own. -/
import Derived.Test.YtlikagbdhjdggaaGreatDoorYFnExactIndexKey23
namespace Go.Proofs.YtlikagbdhjdggaaGreatDoor.Pure
open Go.RowKit Go.Proofs.YtlikagbdhjdggaaGreatDoor.X Go.Proofs.YtlikagbdhjdggaaGreatDoorW.PrintWords Go.Proofs.YtlikagbdhjdggaaGreatDoorW.PrintLast
set_option linter.unusedVariables false
set_option linter.unusedSimpArgs false
theorem check_row (k : Nat) (n0 : ByteArray) (C : List S78) (q : Int) (X : List S58) (R : List S61) (j : Int) (h : impl_CheckRow.f k n0 C q X R = some (0, j)) :
    (R.length ≤ 8 ∧ ∀ v ∈ R, vok v.f0 v.f1 v.f2 = true) ∧ R.length = C.length ∧ impl_TableOK.f k n0 C q X = some true := by
  unfold impl_CheckRow.f at h
  by_cases c : (R.length : Int) > 4096
  · rw [if_pos c] at h; simp at h
  rw [if_neg c] at h
  obtain ⟨t, ht, h⟩ := Option.bind_eq_some_iff.1 h
  cases t
  · simp at h
  · rw [if_pos rfl, impl_row, Option.bind_some] at h
    by_cases r : rowok R = true
    · rw [if_pos r] at h
      unfold rowok at r
      rw [Bool.and_eq_true] at r
      refine ⟨⟨of_decide_eq_true r.1, fun v hv => List.all_eq_true.1 r.2 v hv⟩, ?_, ht⟩
      unfold impl_Table_rowCode.f at h
      by_cases hl : (R.length : Int) = (C.length : Int)
      · omega
      · rw [if_neg hl] at h; simp at h
    · rw [if_neg r] at h; simp at h
theorem rd_mem (R : List S61) (c : Int) (h : 0 ≤ c ∧ c < (R.length : Int)) : rd_T61 R c ∈ R := by
  have hl : c.toNat < R.length := by omega
  unfold rd_T61
  rw [List.getD_eq_getElem?_getD, List.getElem?_eq_getElem hl]
  exact List.getElem_mem hl
theorem kb_app (A B : List S61) : kb (A ++ B) = kb A ++ kb B := by unfold kb; rw [List.map_append, List.flatten_append]
theorem spec_entry (n0 : ByteArray) (C : List S78) (q : Int) (X : List S58) (nm : ByteArray) (L : List Int) (R : List S61) (hq : 0 ≤ q ∧ q ≤ (R.length : Int)) (hL : ∀ c ∈ L, 0 ≤ c ∧ c < (R.length : Int)) (hLl : L.length ≤ 8) (hR : R.length ≤ 8) :
    ∀ d i (acc : List S61), i + d = L.length → acc.length + d ≤ 1000 → Ev (fun k => spec_l09Entry.l0 k R acc (i : Int) n0 C q X nm L) (acc ++ ((L.drop i).map fun c => rd_T61 R c) ++ R.take q.toNat)
  | 0, i, acc, h, hs => by
    rw [List.drop_of_length_le (by omega), List.map_nil, List.append_nil]
    refine Ev.step (f := fun _ => some (acc ++ R.take q.toNat)) (fun k => ?_) (Ev.now _)
    rw [spec_l09Entry.l0, if_neg (by omega), if_pos hq.1, if_pos hq.2, Option.bind_some, if_pos (by rw [List.length_take]; omega)]
  | d + 1, i, acc, h, hs => by
    have hlt : i < L.length := by omega
    have hm := hL _ (List.getElem_mem hlt)
    have ih := spec_entry n0 C q X nm L R hq hL hLl hR d (i + 1) (acc ++ [rd_T61 R L[i]]) (by omega) (by rw [List.length_append, List.length_singleton]; omega)
    rw [List.drop_eq_getElem_cons hlt, List.map_cons]
    rw [List.append_assoc acc, List.singleton_append] at ih
    refine Ev.step (fun k => ?_) ih
    rw [spec_l09Entry.l0, if_pos (show (i : Int) < (L.length : Int) by omega), if_pos (show (0 : Int) ≤ (i : Int) by omega), rd_is L i hlt, if_pos hm.1, if_pos hm.2, if_pos (by omega), next64 i L.length hlt (by simp only [maxLen]; omega)]
theorem impl_entry (n0 : ByteArray) (C : List S78) (q : Int) (X : List S58) (L : List Int) (R : List S61) (hq : 0 ≤ q ∧ q ≤ (R.length : Int)) (hL : ∀ c ∈ L, 0 ≤ c ∧ c < (R.length : Int)) (hLl : L.length ≤ 8) (hR : R.length ≤ 8) (hg : ∀ v ∈ R, gval v) :
    ∀ d i (acc : List S61), i + d = L.length → acc.length + d ≤ 1000 → (∀ v ∈ acc, gval v) → Ev (fun k => impl_Table_indexKey.l0 k R acc L (L.length : Int) (i : Int) n0 C q X) (kb (acc ++ ((L.drop i).map fun c => rd_T61 R c) ++ R.take q.toNat))
  | 0, i, acc, h, hs, ha => by
    rw [List.drop_of_length_le (by omega), List.map_nil, List.append_nil, kb_app]
    have hgt : ∀ v ∈ R.take q.toNat, gval v := fun v hm => hg v (List.mem_of_mem_take hm)
    have l1 := kb_length _ ha
    have l2 := kb_length _ hgt
    have l3 : (R.take q.toNat).length ≤ 8 := by rw [List.length_take]; omega
    refine Ev.step (f := fun k => (impl_keyBytes.f k acc).bind fun t => (impl_keyBytes.f k (R.take q.toNat)).bind fun u => if t.length + u.length < 140737488355328 then some (t ++ u) else none) (fun k => ?_) (Ev.bind (f := fun k t => (impl_keyBytes.f k (R.take q.toNat)).bind fun u => if t.length + u.length < 140737488355328 then some (t ++ u) else none) (impl_key acc (by omega) ha) (Ev.bind (f := fun _ u => if (kb acc).length + u.length < 140737488355328 then some (kb acc ++ u) else none) (impl_key (R.take q.toNat) (by omega) hgt) (Ev.congr (fun k => if_pos (by omega)) (Ev.now _))))
    rw [impl_Table_indexKey.l0, if_neg (by omega)]
    unfold impl_Table_rowKey.f
    rw [if_pos hq.1, if_pos hq.2]
    cases impl_keyBytes.f k acc <;> cases impl_keyBytes.f k (R.take q.toNat) <;> rfl
  | d + 1, i, acc, h, hs, ha => by
    have hlt : i < L.length := by omega
    have hm := hL _ (List.getElem_mem hlt)
    have ih := impl_entry n0 C q X L R hq hL hLl hR hg d (i + 1) (acc ++ [rd_T61 R L[i]]) (by omega) (by rw [List.length_append, List.length_singleton]; omega) (fun v hv => by
      rcases List.mem_append.1 hv with hv | hv
      · exact ha v hv
      · rw [List.mem_singleton.1 hv]; exact hg _ (rd_mem R _ hm))
    rw [List.drop_eq_getElem_cons hlt, List.map_cons]
    rw [List.append_assoc acc, List.singleton_append] at ih
    refine Ev.step (fun k => ?_) ih
    rw [impl_Table_indexKey.l0, if_pos (show (i : Int) < (L.length : Int) by omega), if_pos (show (0 : Int) ≤ (i : Int) by omega), if_pos (show (i : Int) < (L.length : Int) by omega), rd_is L i hlt, if_pos hm.1, if_pos hm.2, if_pos (by omega), next64 i L.length hlt (by simp only [maxLen]; omega)]
theorem indexkey_same (n0 : ByteArray) (C : List S78) (q : Int) (X : List S58) (B : Nat) (hn : n0.size ≤ maxLen) (hS : SmallT B C X) (hC : C.length ≤ 1048576) (hX : X.length ≤ 1048576) (p : Int) (R : List S61) (hR : R.length ≤ 1048576) (hr : ∀ v ∈ R, -9223372036854775808 ≤ v.f1 ∧ v.f1 ≤ 9223372036854775807) :
    ∃ r : List Int × Int, r.1.length ≤ 10000 ∧ Ev (fun k => spec_IndexKey.f k n0 C q X p R) r ∧ Ev (fun k => impl_IndexKey.f k n0 C q X p R) r := by
  obtain ⟨r, f1, f2⟩ := checkrow_same n0 C q X B hn hS hC hX R hR (B + n0.size + C.length + X.length + C.length + X.length + R.length + 2000) (by omega)
  have e1 : Ev (fun k => spec_CheckRow.f k n0 C q X R) r := Ev.of (fun k => spec_CheckRow.mono _ _ _ _ _ k) f1
  have e2 : Ev (fun k => impl_CheckRow.f k n0 C q X R) r := Ev.of (fun k => impl_CheckRow.mono _ _ _ _ _ k) f2
  by_cases h : (R.length : Int) > 4096
  · have e : r = (2, 0) := by
      unfold impl_CheckRow.f at f2
      rw [if_pos h] at f2
      exact (Option.some.inj f2).symm
    subst e
    refine ⟨([], 2), by simp, Ev.congr (fun k => ?_) (Ev.now _), ?_⟩
    · unfold spec_IndexKey.f; rw [if_pos h]
    · refine Ev.congr (fun k => by unfold impl_IndexKey.f; rfl) (Ev.bind e2 (Ev.congr (fun k => ?_) (Ev.now _)))
      rw [if_neg (by decide)]
  obtain ⟨c, j⟩ := r
  by_cases hc : c = 0
  · subst hc
    obtain ⟨⟨hl, hv⟩, hlc, ht⟩ := check_row _ n0 C q X R j f2
    have G := table_good n0 C q X B hn hS hC hX _ (by omega) ht
    have hq : 0 ≤ q ∧ q ≤ (R.length : Int) := by have := G.key; omega
    have hg : ∀ v ∈ R, gval v := fun v hm => ⟨hv v hm, hr v hm⟩
    have wl : wrap64 ((X.length : Int) - 1) = (X.length : Int) - 1 := by unfold wrap64; omega
    by_cases hp : 0 ≤ p ∧ p ≤ (X.length : Int) - 1
    · have hin : (decide (0 ≤ p) && decide (p ≤ wrap64 ((X.length : Int) - 1))) = true := by rw [wl]; simp [hp]
      have hpl : p.toNat < X.length := by omega
      have hx : rd_T58 X p = X[p.toNat] := by unfold rd_T58; rw [List.getD_eq_getElem?_getD, List.getElem?_eq_getElem hpl]; rfl
      have gi := G.idxs _ (List.getElem_mem hpl)
      have gL : ∀ c ∈ X[p.toNat].f1, 0 ≤ c ∧ c < (R.length : Int) := fun c hc => by have := gi.2.2 c hc; omega
      have gl : X[p.toNat].f1.length ≤ 8 := by have := gi.2.1; omega
      have s1 := spec_entry n0 C q X X[p.toNat].f0 X[p.toNat].f1 R hq gL gl hl X[p.toNat].f1.length 0 [] (by omega) (by simp; omega)
      have i1 := impl_entry n0 C q X X[p.toNat].f1 R hq gL gl hl hg X[p.toNat].f1.length 0 [] (by omega) (by simp; omega) (fun v hv => by cases hv)
      rw [List.nil_append, List.drop_zero] at s1 i1
      obtain ⟨E, hE⟩ : ∃ E, (X[p.toNat].f1.map fun c => rd_T61 R c) ++ R.take q.toNat = E := ⟨_, rfl⟩
      rw [hE] at s1 i1
      have gE : ∀ v ∈ E, gval v := fun v hm => by
        rw [← hE] at hm
        rcases List.mem_append.1 hm with hm | hm
        · obtain ⟨c, hc, rfl⟩ := List.mem_map.1 hm; exact hg _ (rd_mem R c (gL c hc))
        · exact hg v (List.mem_of_mem_take hm)
      have lE : E.length ≤ 16 := by rw [← hE, List.length_append, List.length_map, List.length_take]; omega
      have kl := kb_length _ gE
      refine ⟨(kb E, 0), by show (kb E).length ≤ 10000; omega, ?_, ?_⟩
      · refine Ev.congr (fun k => by unfold spec_IndexKey.f; rw [if_neg h]) (Ev.bind e1 (Ev.congr (fun k => ?_) (Ev.bind (f := fun k t => (spec_l01Key.f k t).bind fun t => some (t, (0 : Int))) s1 (Ev.bind (f := fun _ t => some (t, (0 : Int))) (spec_key E (by omega) gE) (Ev.now _)))))
        rw [if_pos rfl, spec_in, Option.bind_some, if_pos hin, if_pos hp.1, if_pos (show p < (X.length : Int) by omega), hx]
        rfl
      · refine Ev.congr (fun k => by unfold impl_IndexKey.f; rfl) (Ev.bind e2 (Ev.congr (fun k => ?_) (Ev.bind (f := fun _ t => some (t, (0 : Int))) i1 (Ev.now _))))
        rw [if_pos rfl, impl_in, Option.bind_some, if_pos hin, if_pos hp.1, if_pos (show p < (X.length : Int) by omega), hx]
        rfl
    · have hin : (decide (0 ≤ p) && decide (p ≤ wrap64 ((X.length : Int) - 1))) = false := by
        rw [wl]
        by_cases h0 : 0 ≤ p
        · rw [show decide (p ≤ (X.length : Int) - 1) = false from decide_eq_false (fun h1 => hp ⟨h0, h1⟩), Bool.and_false]
        · rw [decide_eq_false h0, Bool.false_and]
      refine ⟨([], 4), by simp, ?_, ?_⟩
      · refine Ev.congr (fun k => by unfold spec_IndexKey.f; rw [if_neg h]) (Ev.bind e1 (Ev.congr (fun k => ?_) (Ev.now _)))
        rw [if_pos rfl, spec_in, Option.bind_some, hin, if_neg (by decide)]
      · refine Ev.congr (fun k => by unfold impl_IndexKey.f; rfl) (Ev.bind e2 (Ev.congr (fun k => ?_) (Ev.now _)))
        rw [if_pos rfl, impl_in, Option.bind_some, hin, if_neg (by decide)]
  · refine ⟨([], c), by simp, ?_, ?_⟩
    · refine Ev.congr (fun k => by unfold spec_IndexKey.f; rw [if_neg h]) (Ev.bind e1 (Ev.congr (fun k => ?_) (Ev.now _)))
      rw [if_neg hc]
    · refine Ev.congr (fun k => by unfold impl_IndexKey.f; rfl) (Ev.bind e2 (Ev.congr (fun k => ?_) (Ev.now _)))
      rw [if_neg hc]
theorem FnExactIndexKey : laws_FnExactIndexKey.Need := by
  intro n0 C q X p0 R hn hC _ hX _ hR
  have hCs : ∀ x ∈ C, x.f0.size ≤ maxLen := fun x h => (hC.2 x h).1
  have hXs : ∀ x ∈ X, x.f0.size ≤ maxLen ∧ x.f1.length ≤ maxLen := fun x h => ⟨(hX.2 x h).1, (hX.2 x h).2.1⟩
  have hRs : ∀ x ∈ R, x.f2.size ≤ maxLen := fun x h => (hR.2 x h).2.2
  have hRi : ∀ v ∈ R.map cvValue, -9223372036854775808 ≤ v.f1 ∧ v.f1 ≤ 9223372036854775807 := fun v h => by obtain ⟨y, hy, rfl⟩ := List.mem_map.1 h; exact i64_of (hR.2 y hy).2.1
  obtain ⟨B, hB⟩ := bound_if C X hCs (fun x h => (hXs x h).1)
  by_cases c0 : C.length ≤ 1048576 ∧ X.length ≤ 1048576 ∧ (∀ x ∈ X, x.f1.length ≤ 1048576) ∧ R.length ≤ 1048576
  case neg =>
    obtain ⟨K, hK⟩ : ∃ K : Nat, C.length + X.length + R.length + 4194304 < K := ⟨_, Nat.lt_succ_self _⟩
    refine ⟨K, ?_⟩
    unfold laws_FnExactIndexKey.f
    obtain ⟨m1, e1, a1, b1, d1⟩ := szTable_is n0 C q X hn hC.1 hCs hX.1 hXs 1048576 (by omega) K (by omega)
    rw [e1, Option.bind_some]
    by_cases c1 : m1 < 0
    · rw [if_pos c1]
    rw [if_neg c1]
    obtain ⟨_, hCl, hXl, hsm⟩ := d1.resolve_left c1
    obtain ⟨m2, e2, a2, b2, d2⟩ := szValueS_is R hR.1 hRs m1 (by omega) K (by omega)
    rw [e2, Option.bind_some]
    by_cases c2 : m2 < 0
    · rw [if_pos c2]
    · exact absurd ⟨hCl, hXl, hsm, d2.resolve_left c2⟩ c0
  obtain ⟨hCl, hXl, hsm, hRl⟩ := c0
  have hCm : (C.map cvColumn).length ≤ 1048576 := by rw [List.length_map]; exact hCl
  have hXm : (X.map cvIndex).length ≤ 1048576 := by rw [List.length_map]; exact hXl
  have hRm : (R.map cvValue).length ≤ 1048576 := by rw [List.length_map]; exact hRl
  have hMm : ∀ x ∈ X.map cvIndex, x.f1.length ≤ 1048576 := fun x h => by obtain ⟨y, hy, rfl⟩ := List.mem_map.1 h; exact hsm y hy
  have lC : (C.map cvColumn).length = C.length := List.length_map _
  have lX : (X.map cvIndex).length = X.length := List.length_map _
  have lR : (R.map cvValue).length = R.length := List.length_map _
  obtain ⟨r, hl, ⟨K1, w1⟩, ⟨K2, w2⟩⟩ := indexkey_same n0 (C.map cvColumn) q (X.map cvIndex) B hn (hB hsm) hCm hXm p0 (R.map cvValue) hRm hRi
  obtain ⟨K, hK⟩ : ∃ K : Nat, K1 + K2 + C.length + X.length + R.length + 4194304 < K := ⟨_, Nat.lt_succ_self _⟩
  refine ⟨K + 3, ?_⟩
  unfold laws_FnExactIndexKey.f
  obtain ⟨m1, e1, a1, b1, d1⟩ := szTable_is n0 C q X hn hC.1 hCs hX.1 hXs 1048576 (by omega) (K + 3) (by omega)
  rw [e1, Option.bind_some]
  by_cases c1 : m1 < 0
  · rw [if_pos c1]
  rw [if_neg c1]
  obtain ⟨m2, e2, a2, b2, d2⟩ := szValueS_is R hR.1 hRs m1 (by omega) (K + 3) (by omega)
  rw [e2, Option.bind_some]
  by_cases c2 : m2 < 0
  · rw [if_pos c2]
  have hw1 := w1 (K + 3) (by omega)
  have hw2 := w2 (K + 3) (by omega)
  have hw3 := w2 (K + 1) (by omega)
  dsimp only at hw1 hw2 hw3
  rw [if_neg c2, toTable_is n0 C q X hCl hXl hsm (K + 3) (by omega), Option.bind_some, toValueS_is R hRl (K + 3) (by omega), Option.bind_some]
  simp only [hw1, hw2, Option.bind_some]
  rw [eqByteS_refl r.1 (by omega) (K + 3) (by omega), Option.bind_some, if_pos rfl, show (r.2 != r.2) = false by simp]
  rw [laws_FnExactIndexKey.j0, if_neg (by decide), toTable_is n0 C q X hCl hXl hsm (K + 2) (by omega), Option.bind_some]
  dsimp only
  rw [eqTable_refl n0 (C.map cvColumn) q (X.map cvIndex) hCm hXm hMm (K + 2) (by omega), Option.bind_some, if_pos rfl, toValueS_is R hRl (K + 2) (by omega), Option.bind_some, eqValueS_refl (R.map cvValue) hRm (K + 2) (by omega), Option.bind_some, if_pos rfl]
  obtain ⟨p, g1, g2, g3⟩ := markTable_is n0 (C.map cvColumn) q (X.map cvIndex) hCm hXm hMm 1 (by omega) (by omega) (K + 2) (by omega)
  obtain ⟨ys, g6, g7⟩ := markValue_f (R.map cvValue) p (by omega) g2 (by omega)
  rw [g1, Option.bind_some, g7 (K + 2) (by omega), Option.bind_some, if_neg (by show ¬ p + 3 * _ < 0; omega), eqByteS_refl r.1 (by omega) (K + 2) (by omega), Option.bind_some, if_pos rfl, show (r.2 != r.2) = false by simp]
  obtain ⟨v, zs, i4, i7⟩ := bytes_held r.1 (by omega)
  rw [laws_FnExactIndexKey.j1, if_neg (by decide), (i7 (K + 1) (by omega)).1, Option.bind_some]
  dsimp only
  rw [(i7 (K + 1) (by omega)).2, Option.bind_some, if_neg (by omega), if_pos rfl, toTable_is n0 C q X hCl hXl hsm (K + 1) (by omega), Option.bind_some, toValueS_is R hRl (K + 1) (by omega), Option.bind_some]
  dsimp only
  rw [hw3, Option.bind_some, eqByteS_refl r.1 (by omega) (K + 1) (by omega), Option.bind_some, if_pos rfl, show (r.2 != r.2) = false by simp]
  rw [laws_FnExactIndexKey.j2, if_neg (by decide), (i7 K (by omega)).2, Option.bind_some, if_neg (by omega), if_pos rfl]
end Go.Proofs.YtlikagbdhjdggaaGreatDoor.Pure
