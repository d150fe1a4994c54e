/- Contracts of functions, and what is told of them. -/
import Derived.Test.YtjknmljdnolilaaDoorYFnExactTableOK3
import Derived.Test.YtjknmljdnolilaaDoorYFnExactTableOK5
import Derived.Test.YtjknmljdnolilaaDoorYFnExactTableOK9
import Derived.Test.YtjknmljdnolilaaDoorYFnExactTableOK13
import Derived.OpenShut
import Derived.Test.YtjknmljdnolilaaDoorYFnExactTableOK8
import Derived.Test.YtjknmljdnolilaaDoorYFnExactTableOK6
import Derived.Test.YtjknmljdnolilaaDoorYFnExactTableOK10
import Derived.Test.YtjknmljdnolilaaDoorRows
import Derived.LaidByTextLater
import Derived.SevenTiedAt
import Derived.LaidSub
import Derived.LaidOnce
import GoSem.ClaimSeven
set_option linter.unusedSimpArgs false
set_option linter.unusedVariables false
section
/- An index is right for both or for neither. -/
namespace Go.Proofs.YtjknmljdnolilaaDoor.Pure
open Go.RowKit Go.Proofs.YtjknmljdnolilaaDoor.X Go.Proofs.YtjknmljdnolilaaDoorW.PrintWords Go.Proofs.YtjknmljdnolilaaDoorW.PrintLast
theorem pigeon : ∀ (n : Nat) (L : List Int), L.Nodup → (∀ x ∈ L, 0 ≤ x ∧ x < (n : Int)) → L.length ≤ n
  | 0, L, _, h => by
    cases L with
    | nil => simp
    | cons x xs => have := h x (.head _); omega
  | n + 1, L, hn, h => by
    by_cases c : (n : Int) ∈ L
    · have h2 := pigeon n (L.erase (n : Int)) (hn.erase _) (fun x hx => by
        have hm := (hn.mem_erase_iff).1 hx
        have := h x hm.2
        have : x ≠ (n : Int) := hm.1
        omega)
      rw [List.length_erase_of_mem c] at h2
      omega
    · have := pigeon n L hn (fun x hx => by
        have := h x hx
        have : x ≠ (n : Int) := fun e => c (e ▸ hx)
        omega)
      omega
theorem tw_at (L : List Int) : ∀ d i, i + d = L.length → twF L d i = false → ∀ j, i ≤ j → (hj : j < L.length) → L[j] ∉ L.take j
  | 0, i, h, _, j, h1, h2 => by omega
  | d + 1, i, h, ht, j, h1, h2 => by
    rw [twF, Bool.or_eq_false_iff] at ht
    by_cases e : j = i
    · subst e
      have := ht.1
      rw [rd_is L j h2] at this
      simpa using this
    · exact tw_at L d (i + 1) (by omega) ht.2 j (by omega) h2
theorem tw_nodup (L : List Int) (h : twF L L.length 0 = false) : L.Nodup := by
  rw [List.Nodup, List.pairwise_iff_getElem]
  intro i j hi hj hij e
  have := tw_at L L.length 0 (by omega) h j (by omega) hj
  apply this
  rw [← e]
  exact List.mem_take_iff_getElem.2 ⟨i, by omega, rfl⟩
theorem index_same (n0 : ByteArray) (C : List S70) (q : Int) (X : List S75) (x : S75) (hx : x.f0.size ≤ maxLen) (hL : x.f1.length ≤ 1048576) (hC : C.length ≤ 1048576) (k : Nat) (hk : x.f0.size + x.f1.length + x.f1.length + 100 < k) :
    ∃ r, impl_Table_indexOK.f k n0 C q X x.f0 x.f1 = some r ∧ spec_l09IndexOK.f k n0 C q X x.f0 x.f1 = some r := by
  unfold impl_Table_indexOK.f spec_l09IndexOK.f
  rw [impl_free x.f0 hx k (by omega), spec_free x.f0 hx k (by omega), Option.bind_some, Option.bind_some]
  obtain ⟨k, rfl⟩ : ∃ m, k = m + x.f1.length + 2 := ⟨k - x.f1.length - 2, by omega⟩
  have hT : spec_l09IndexOK.j0 (k + x.f1.length + 2) true n0 C q X x.f0 x.f1 = some false := by rw [spec_l09IndexOK.j0, if_pos rfl]
  cases free x.f0 with
  | false => rw [if_neg (by decide), if_neg (by decide), hT]; exact ⟨_, rfl, rfl⟩
  | true =>
    rw [if_pos rfl, if_pos rfl]
    by_cases h0 : (x.f1.length : Int) = 0
    · rw [if_pos h0, if_neg (show ¬ (x.f1.length : Int) > 0 by omega), hT]; exact ⟨_, rfl, rfl⟩
    rw [if_neg h0, if_pos (show (x.f1.length : Int) > 0 by omega), twice_is x.f1 hL _ (by omega), Option.bind_some]
    have e := spec_index_l0 n0 C q X x.f0 x.f1 hL hC x.f1.length k 0 (by omega) (by omega)
    rw [show ((0 : Nat) : Int) = 0 from rfl, List.drop_zero] at e
    have hF : spec_l09IndexOK.j0 (k + x.f1.length + 2) false n0 C q X x.f0 x.f1 = some (x.f1.all (inr (C.length : Int)) && !(twF x.f1 x.f1.length 0)) := by
      rw [spec_l09IndexOK.j0, if_neg (by decide)]; exact e
    have hany : (x.f1.any fun c => !(decide (0 ≤ c) && decide (c ≤ (C.length : Int) - 1))) = !(x.f1.all (inr (C.length : Int))) := by
      rw [List.not_all_eq_any_not]; rfl
    rw [hany, Bool.not_not]
    cases ht : twF x.f1 x.f1.length 0 with
    | true =>
      rw [if_pos rfl]
      rw [ht] at hF
      cases decide ((x.f1.length : Int) > (C.length : Int)) with
      | true => rw [hT]; exact ⟨_, rfl, rfl⟩
      | false => rw [hF]; exact ⟨_, rfl, by simp⟩
    | false =>
      rw [if_neg (by decide)]
      rw [ht] at hF
      cases hl : decide ((x.f1.length : Int) > (C.length : Int)) with
      | false => rw [hF]; exact ⟨_, rfl, by simp⟩
      | true =>
        rw [hT]
        refine ⟨_, rfl, ?_⟩
        have hl2 : (x.f1.length : Int) > (C.length : Int) := of_decide_eq_true hl
        cases ha : x.f1.all (inr (C.length : Int)) with
        | false => rfl
        | true =>
          exfalso
          have := pigeon C.length x.f1 (tw_nodup _ ht) (fun y hy => by
            have := List.all_eq_true.1 ha y hy
            unfold inr at this
            rw [Bool.and_eq_true, decide_eq_true_eq, decide_eq_true_eq] at this
            omega)
          omega
end Go.Proofs.YtjknmljdnolilaaDoor.Pure
end

section
/- A table is right for both or for neither. -/
namespace Go.Proofs.YtjknmljdnolilaaDoor.Pure
open Go.RowKit Go.Proofs.YtjknmljdnolilaaDoor.X Go.Proofs.YtjknmljdnolilaaDoorW.PrintWords Go.Proofs.YtjknmljdnolilaaDoorW.PrintLast
def SmallT (B : Nat) (C : List S70) (X : List S75) : Prop :=
  (∀ x ∈ C, x.f0.size ≤ maxLen ∧ x.f0.size ≤ B) ∧ ∀ x ∈ X, x.f0.size ≤ maxLen ∧ x.f1.length ≤ 1048576 ∧ x.f0.size + x.f1.length + x.f1.length ≤ B
theorem idx_same (n0 : ByteArray) (C : List S70) (q : Int) (X : List S75) (B : Nat) (hS : SmallT B C X) (hC : C.length ≤ 1048576) (hX : X.length ≤ 1048576) (k : Nat) (hk : B + X.length + 200 < k) : ∀ d i, i + d = X.length →
    ∃ r, spec_TableOK.l1 (k + d + 1) (i : Int) n0 C q X = some r ∧ impl_TableOK.l1 (k + d + 1) X (X.length : Int) (i : Int) n0 C q X = some r
  | 0, i, h => by rw [show k + 0 + 1 = k + 1 from rfl, spec_TableOK.l1, impl_TableOK.l1, if_neg (show ¬ (i : Int) < (X.length : Int) by omega), if_neg (show ¬ (i : Int) < (X.length : Int) by omega)]; exact ⟨_, rfl, rfl⟩
  | d + 1, i, h => by
    have hlt : i < X.length := by omega
    have hx := hS.2 X[i] (List.getElem_mem hlt)
    obtain ⟨r, e1, e2⟩ := idx_same n0 C q X B hS hC hX k hk d (i + 1) (by omega)
    obtain ⟨t, f1, f2⟩ := index_same n0 C q X X[i] hx.1 hx.2.1 hC (k + d + 1) (by omega)
    have self := fIdx_self (fun x : S75 => x.f0.toList == X[i].f0.toList) X i hlt (by simp)
    rw [show k + (d + 1) + 1 = (k + d + 1) + 1 by omega, spec_TableOK.l1, impl_TableOK.l1, if_pos (show (i : Int) < (X.length : Int) by omega), if_pos (show (0 : Int) ≤ (i : Int) by omega), if_pos (show (i : Int) < (X.length : Int) by omega), if_pos (show (0 : Int) ≤ (i : Int) by omega), if_pos (show (i : Int) < (X.length : Int) by omega),
      rdiIndex_ X i hlt, f1, f2, Option.bind_some, Option.bind_some]
    cases t with
    | false => rw [if_neg (show ¬ false = true by decide), if_neg (show ¬ false = true by decide)]; exact ⟨_, rfl, rfl⟩
    | true =>
      rw [if_pos rfl, if_pos rfl, if_pos (show (i : Int) ≤ (X.length : Int) by omega), show (i : Int).toNat = i from rfl, findIndex_is (X.take i) _ (by rw [List.length_take]; omega) _ (by rw [List.length_take]; omega), next64 i X.length (by omega) (by simp only [maxLen]; omega), e1, e2]
      unfold impl_Table_index.f
      rw [Option.bind_some, Option.bind_some]
      by_cases c : fIdx (fun x : S75 => x.f0.toList == X[i].f0.toList) X = (i : Int)
      · rw [if_pos c, if_neg (show ¬ fIdx (fun x : S75 => x.f0.toList == X[i].f0.toList) (X.take i) ≥ 0 by have := self.1 c; omega)]; exact ⟨_, rfl, rfl⟩
      · rw [if_neg c, if_pos (show fIdx (fun x : S75 => x.f0.toList == X[i].f0.toList) (X.take i) ≥ 0 by have : ¬ _ := fun b => c (self.2 b); omega)]; exact ⟨_, rfl, rfl⟩
theorem cols_same (n0 : ByteArray) (C : List S70) (q : Int) (X : List S75) (B : Nat) (hS : SmallT B C X) (hC : C.length ≤ 1048576) (k : Nat) (hk : B + C.length + 200 < k)
    (H : ∃ r, spec_TableOK.l1 k 0 n0 C q X = some r ∧ impl_TableOK.l1 k X (X.length : Int) 0 n0 C q X = some r) : ∀ d i, i + d = C.length →
    ∃ r, spec_TableOK.l0 (k + d + 1) (i : Int) n0 C q X = some r ∧ impl_TableOK.l0 (k + d + 1) C (C.length : Int) (i : Int) n0 C q X = some r
  | 0, i, h => by rw [show k + 0 + 1 = k + 1 from rfl, spec_TableOK.l0, impl_TableOK.l0, if_neg (show ¬ (i : Int) < (C.length : Int) by omega), if_neg (show ¬ (i : Int) < (C.length : Int) by omega)]; exact H
  | d + 1, i, h => by
    have hlt : i < C.length := by omega
    have hx := hS.1 C[i] (List.getElem_mem hlt)
    obtain ⟨r, e1, e2⟩ := cols_same n0 C q X B hS hC k hk H d (i + 1) (by omega)
    have self := fIdx_self (fun x : S70 => x.f0.toList == C[i].f0.toList) C i hlt (by simp)
    rw [show k + (d + 1) + 1 = (k + d + 1) + 1 by omega, spec_TableOK.l0, impl_TableOK.l0, if_pos (show (i : Int) < (C.length : Int) by omega), if_pos (show (0 : Int) ≤ (i : Int) by omega), if_pos (show (i : Int) < (C.length : Int) by omega), if_pos (show (0 : Int) ≤ (i : Int) by omega), if_pos (show (i : Int) < (C.length : Int) by omega),
      rdiColumn_ C i hlt]
    unfold impl_columnOK.f impl_Table_column.f
    rw [impl_free C[i].f0 hx.1 _ (by omega), spec_free C[i].f0 hx.1 _ (by omega), impl_in, spec_in, show (i : Int).toNat = i from rfl, findColumn_is (C.take i) _ (by rw [List.length_take]; omega) _ (by rw [List.length_take]; omega), next64 i C.length (by omega) (by simp only [maxLen]; omega), e1, e2]
    simp only [Option.bind_some]
    cases free C[i].f0 with
    | false => simp
    | true =>
      cases (decide (1 ≤ C[i].f1) && decide (C[i].f1 ≤ 4)) with
      | false => simp
      | true =>
        by_cases c : fIdx (fun x : S70 => x.f0.toList == C[i].f0.toList) C = (i : Int)
        · have hn : ¬ fIdx (fun x : S70 => x.f0.toList == C[i].f0.toList) (C.take i) ≥ 0 := by have := self.1 c; omega
          by_cases hq : (i : Int) < q <;> cases C[i].f2 <;> simp [c, hn, hq, show (i : Int) ≤ (C.length : Int) by omega]
        · have hn : fIdx (fun x : S70 => x.f0.toList == C[i].f0.toList) (C.take i) ≥ 0 := by have : ¬ _ := fun b => c (self.2 b); omega
          by_cases hq : (i : Int) < q <;> cases C[i].f2 <;> simp [c, hn, hq, show (i : Int) ≤ (C.length : Int) by omega]
end Go.Proofs.YtjknmljdnolilaaDoor.Pure
end

section
/-
  DERIVED. GIVEN WITH THE SEED: THE PROGRAM's TIES (one call each: nine closed facts by the kernel) AND EACH ROW's TIE, after the 31st guide's Derived/Test/Toyas{Tie, Card}.lean. No idea stands in it: it is a product of the set-up. Laid BY PROGRAM, IN A SANDBOX (cutbox-door.mjs). By AI agents, Wed Nov 11 2026. No macro, syntax, notation, axiom, sorry.
-/
namespace Go.Proofs.YtjknmljdnolilaaDoor
open Go
set_option maxRecDepth 100000
theorem seatTie1 : Tryd.prog.laidByTextLater [("unicode/utf8.acceptRanges", Rows.laid_unicode_utf8_acceptRanges)] [.data] true :=
  Program.laidByTextLater_by_one 19 8 33 (by kernel_rfl) (by kernel_rfl) (by kernel_rfl) (by kernel_rfl) (by kernel_rfl) (by kernel_rfl) (fun _ _ => by kernel_rfl)
theorem pin_laid_unicode_utf8_first : Tryd.pinned.checked.prog.pinnedFits "unicode/utf8.first" = true := by kernel_rfl
theorem noOwnUnsafe : Tryd.pinned.checked.prog.headLifts.contains "ownunsafe" = false := by kernel_rfl
theorem fits1 : Tryd.pinned.checked.prog.listedFits [("unicode/utf8.acceptRanges", Rows.laid_unicode_utf8_acceptRanges), ("unicode/utf8.first", Rows.laid_unicode_utf8_first)] = true := by
  unfold Program.listedFits
  rw [noOwnUnsafe]
  kernel_rfl
theorem tie : Tryd.prog.laidByTextLater [("unicode/utf8.acceptRanges", Rows.laid_unicode_utf8_acceptRanges)] [.data] true :=
  Program.laidByTextLater.sub seatTie1 ["unicode/utf8.acceptRanges"] (by kernel_rfl) (by kernel_rfl)
theorem fnExactFindField_row_tie : Rows.fnExactFindFieldRow.laidByTextAt .later Tryd.pinned [.data, .pinned] true :=
  OpenClaim.laidByTextAt_pinned rfl rfl tie rfl rfl rfl rfl (fun y hy _e => by
    simp only [Rows.fnExactFindFieldRow, List.zip_cons_cons, List.zip_nil_right, List.mem_cons, List.mem_nil_iff, or_false] at hy
    rcases hy with rfl | rfl
    · cases _e
    · exact ⟨pin_laid_unicode_utf8_first, by kernel_rfl⟩) fits1
theorem fnExactTableOK_row_tie : Rows.fnExactTableOKRow.laidByTextAt .later Tryd.pinned [.data, .pinned] true :=
  OpenClaim.laidByTextAt_pinned rfl rfl tie rfl rfl rfl rfl (fun y hy _e => by
    simp only [Rows.fnExactTableOKRow, List.zip_cons_cons, List.zip_nil_right, List.mem_cons, List.mem_nil_iff, or_false] at hy
    rcases hy with rfl | rfl
    · cases _e
    · exact ⟨pin_laid_unicode_utf8_first, by kernel_rfl⟩) fits1
theorem fnExactCatalogOK_row_tie : Rows.fnExactCatalogOKRow.laidByTextAt .later Tryd.pinned [.data, .pinned] true :=
  OpenClaim.laidByTextAt_pinned rfl rfl tie rfl rfl rfl rfl (fun y hy _e => by
    simp only [Rows.fnExactCatalogOKRow, List.zip_cons_cons, List.zip_nil_right, List.mem_cons, List.mem_nil_iff, or_false] at hy
    rcases hy with rfl | rfl
    · cases _e
    · exact ⟨pin_laid_unicode_utf8_first, by kernel_rfl⟩) fits1
theorem fnExactCheckRow_row_tie : Rows.fnExactCheckRowRow.laidByTextAt .later Tryd.pinned [.data, .pinned] true :=
  OpenClaim.laidByTextAt_pinned rfl rfl tie rfl rfl rfl rfl (fun y hy _e => by
    simp only [Rows.fnExactCheckRowRow, List.zip_cons_cons, List.zip_nil_right, List.mem_cons, List.mem_nil_iff, or_false] at hy
    rcases hy with rfl | rfl
    · cases _e
    · exact ⟨pin_laid_unicode_utf8_first, by kernel_rfl⟩) fits1
theorem fnExactFindFieldUpto_row_tie : Rows.fnExactFindFieldUptoRow.laidByTextAt .later Tryd.pinned [.data, .pinned] true :=
  OpenClaim.laidByTextAt_pinned rfl rfl tie rfl rfl rfl rfl (fun y hy _e => by
    simp only [Rows.fnExactFindFieldUptoRow, List.zip_cons_cons, List.zip_nil_right, List.mem_cons, List.mem_nil_iff, or_false] at hy
    rcases hy with rfl | rfl
    · cases _e
    · exact ⟨pin_laid_unicode_utf8_first, by kernel_rfl⟩) fits1
theorem fnExactTableOKUpto_row_tie : Rows.fnExactTableOKUptoRow.laidByTextAt .later Tryd.pinned [.data, .pinned] true :=
  OpenClaim.laidByTextAt_pinned rfl rfl tie rfl rfl rfl rfl (fun y hy _e => by
    simp only [Rows.fnExactTableOKUptoRow, List.zip_cons_cons, List.zip_nil_right, List.mem_cons, List.mem_nil_iff, or_false] at hy
    rcases hy with rfl | rfl
    · cases _e
    · exact ⟨pin_laid_unicode_utf8_first, by kernel_rfl⟩) fits1
theorem fnExactCatalogOKUpto_row_tie : Rows.fnExactCatalogOKUptoRow.laidByTextAt .later Tryd.pinned [.data, .pinned] true :=
  OpenClaim.laidByTextAt_pinned rfl rfl tie rfl rfl rfl rfl (fun y hy _e => by
    simp only [Rows.fnExactCatalogOKUptoRow, List.zip_cons_cons, List.zip_nil_right, List.mem_cons, List.mem_nil_iff, or_false] at hy
    rcases hy with rfl | rfl
    · cases _e
    · exact ⟨pin_laid_unicode_utf8_first, by kernel_rfl⟩) fits1
theorem fnExactCheckRowUpto_row_tie : Rows.fnExactCheckRowUptoRow.laidByTextAt .later Tryd.pinned [.data, .pinned] true :=
  OpenClaim.laidByTextAt_pinned rfl rfl tie rfl rfl rfl rfl (fun y hy _e => by
    simp only [Rows.fnExactCheckRowUptoRow, List.zip_cons_cons, List.zip_nil_right, List.mem_cons, List.mem_nil_iff, or_false] at hy
    rcases hy with rfl | rfl
    · cases _e
    · exact ⟨pin_laid_unicode_utf8_first, by kernel_rfl⟩) fits1
end Go.Proofs.YtjknmljdnolilaaDoor
end

section
/-
  DERIVED. GIVEN WITH THE SEED: THE CARDS: each row of YtjknmljdnolilaaDoorRows.lean that lists a variable, with what it lists TIED to the program's text (the seventh form; the later family's looks); each row that meets fmt, with fmt's text TOLD by the authors' own Lean function (tested against real Go, not proved from fmt's source: count such statements apart). THE CARD IS WHAT COUNTS. Prove the row's statement (the work); the ties are given (YtjknmljdnolilaaDoorTie.lean); close each card by the builder's one call (the guide's Derived/Test/ToyasCard.lean, 'card_holds'). Laid BY PROGRAM, IN A SANDBOX (cutbox-door.mjs). By AI agents, Wed Nov 11 2026. No macro, syntax, notation, axiom, sorry.
-/
namespace Go.Proofs.YtjknmljdnolilaaDoor
namespace Rows

/-- THE TIED CARD OF 'laws.FnExactFindField'. -/
def fnExactFindFieldCard : Claim7 := { stood := { row := fnExactFindFieldRow, standIns := [], harness := (true, "bd0432c2e7d5251c135caa945b578245fae344f8b353aaff26c66b309a7da4e2"), looks := false }, kinds := [], alts := [], laidByText := true, laidKinds := [.data, .pinned], laidTests := true, laidLooks := .later }
def FnExactFindFieldCardSaid : Prop := Claim7.holds Tryd.pinned (.plain (OpenSpec.ofChange fnExactFindFieldSpec)) fnExactFindFieldCard

/-- THE TIED CARD OF 'laws.FnExactTableOK'. -/
def fnExactTableOKCard : Claim7 := { stood := { row := fnExactTableOKRow, standIns := [], harness := (true, "bd0432c2e7d5251c135caa945b578245fae344f8b353aaff26c66b309a7da4e2"), looks := false }, kinds := [], alts := [], laidByText := true, laidKinds := [.data, .pinned], laidTests := true, laidLooks := .later }
def FnExactTableOKCardSaid : Prop := Claim7.holds Tryd.pinned (.plain (OpenSpec.ofChange fnExactTableOKSpec)) fnExactTableOKCard

/-- THE TIED CARD OF 'laws.FnExactCatalogOK'. -/
def fnExactCatalogOKCard : Claim7 := { stood := { row := fnExactCatalogOKRow, standIns := [], harness := (true, "bd0432c2e7d5251c135caa945b578245fae344f8b353aaff26c66b309a7da4e2"), looks := false }, kinds := [], alts := [], laidByText := true, laidKinds := [.data, .pinned], laidTests := true, laidLooks := .later }
def FnExactCatalogOKCardSaid : Prop := Claim7.holds Tryd.pinned (.plain (OpenSpec.ofChange fnExactCatalogOKSpec)) fnExactCatalogOKCard

/-- THE TIED CARD OF 'laws.FnExactCheckRow'. -/
def fnExactCheckRowCard : Claim7 := { stood := { row := fnExactCheckRowRow, standIns := [], harness := (true, "bd0432c2e7d5251c135caa945b578245fae344f8b353aaff26c66b309a7da4e2"), looks := false }, kinds := [], alts := [], laidByText := true, laidKinds := [.data, .pinned], laidTests := true, laidLooks := .later }
def FnExactCheckRowCardSaid : Prop := Claim7.holds Tryd.pinned (.plain (OpenSpec.ofChange fnExactCheckRowSpec)) fnExactCheckRowCard

/-- THE SECOND FORM's CARD OF 'laws.FnExactFindField'. -/
def fnExactFindFieldUptoCard : Claim7 := { stood := { row := fnExactFindFieldUptoRow, standIns := [], harness := (true, "bd0432c2e7d5251c135caa945b578245fae344f8b353aaff26c66b309a7da4e2"), looks := false }, kinds := [], alts := [], laidByText := true, laidKinds := [.data, .pinned], laidTests := true, laidLooks := .later }
def FnExactFindFieldUptoCardSaid : Prop := Claim7.holds Tryd.pinned (.plain (OpenSpec.upto fnExactFindFieldSpec)) fnExactFindFieldUptoCard

/-- THE SECOND FORM's CARD OF 'laws.FnExactTableOK'. -/
def fnExactTableOKUptoCard : Claim7 := { stood := { row := fnExactTableOKUptoRow, standIns := [], harness := (true, "bd0432c2e7d5251c135caa945b578245fae344f8b353aaff26c66b309a7da4e2"), looks := false }, kinds := [], alts := [], laidByText := true, laidKinds := [.data, .pinned], laidTests := true, laidLooks := .later }
def FnExactTableOKUptoCardSaid : Prop := Claim7.holds Tryd.pinned (.plain (OpenSpec.upto fnExactTableOKSpec)) fnExactTableOKUptoCard

/-- THE SECOND FORM's CARD OF 'laws.FnExactCatalogOK'. -/
def fnExactCatalogOKUptoCard : Claim7 := { stood := { row := fnExactCatalogOKUptoRow, standIns := [], harness := (true, "bd0432c2e7d5251c135caa945b578245fae344f8b353aaff26c66b309a7da4e2"), looks := false }, kinds := [], alts := [], laidByText := true, laidKinds := [.data, .pinned], laidTests := true, laidLooks := .later }
def FnExactCatalogOKUptoCardSaid : Prop := Claim7.holds Tryd.pinned (.plain (OpenSpec.upto fnExactCatalogOKSpec)) fnExactCatalogOKUptoCard

/-- THE SECOND FORM's CARD OF 'laws.FnExactCheckRow'. -/
def fnExactCheckRowUptoCard : Claim7 := { stood := { row := fnExactCheckRowUptoRow, standIns := [], harness := (true, "bd0432c2e7d5251c135caa945b578245fae344f8b353aaff26c66b309a7da4e2"), looks := false }, kinds := [], alts := [], laidByText := true, laidKinds := [.data, .pinned], laidTests := true, laidLooks := .later }
def FnExactCheckRowUptoCardSaid : Prop := Claim7.holds Tryd.pinned (.plain (OpenSpec.upto fnExactCheckRowSpec)) fnExactCheckRowUptoCard
end Rows
end Go.Proofs.YtjknmljdnolilaaDoor
end
