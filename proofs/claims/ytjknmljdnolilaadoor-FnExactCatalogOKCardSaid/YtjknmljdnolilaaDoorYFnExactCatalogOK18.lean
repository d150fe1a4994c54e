/- Contracts of functions, and what is told of them. -/
import Derived.Test.YtjknmljdnolilaaDoorYFnExactCatalogOK3
import Derived.Test.YtjknmljdnolilaaDoorYFnExactCatalogOK4
import Derived.Test.YtjknmljdnolilaaDoorYFnExactCatalogOK10
import Derived.Test.YtjknmljdnolilaaDoorYFnExactCatalogOK16
import Derived.Test.YtjknmljdnolilaaDoorYFnExactCatalogOK17
import Derived.OpenShut
import Derived.Test.YtjknmljdnolilaaDoorYFnExactCatalogOK7
import Derived.Test.YtjknmljdnolilaaDoorYFnExactCatalogOK13
import Derived.Test.YtjknmljdnolilaaDoorYFnExactCatalogOK8
import Derived.Test.YtjknmljdnolilaaDoorYFnExactCatalogOK14
import Derived.Test.YtjknmljdnolilaaDoorRows
import Derived.LaidByTextLater
import Derived.SevenTiedAt
import Derived.LaidSub
import Derived.LaidOnce
import GoSem.ClaimSeven
set_option linter.unusedSimpArgs false
set_option linter.unusedVariables false
section
/- Lists of tables: copies, likeness, sizes. -/
namespace Go.Proofs.YtjknmljdnolilaaDoor.Pure
open Go.RowKit Go.Proofs.YtjknmljdnolilaaDoor.X Go.Proofs.YtjknmljdnolilaaDoorW.PrintWords Go.Proofs.YtjknmljdnolilaaDoorW.PrintLast
theorem bounded_ {α : Type} (f : α → Nat) (L : List α) : ∃ M, ∀ x ∈ L, f x ≤ M := by
  induction L with
  | nil => exact ⟨0, fun x h => by cases h⟩
  | cons y ys ih => obtain ⟨M, hM⟩ := ih; exact ⟨M + f y, fun x h => by rcases List.mem_cons.1 h with rfl | h; omega; have := hM x h; omega⟩
def smTable (x : S33) : Prop := x.f1.length ≤ 1048576 ∧ x.f3.length ≤ 1048576 ∧ ∀ y ∈ x.f3, y.f1.length ≤ 1048576
def siTable (x : S39) : Prop := x.f1.length ≤ 1048576 ∧ x.f3.length ≤ 1048576 ∧ ∀ y ∈ x.f3, y.f1.length ≤ 1048576
def wfTable (x : S33) : Prop := x.f0.size ≤ maxLen ∧ x.f1.length ≤ maxLen ∧ (∀ y ∈ x.f1, y.f0.size ≤ maxLen) ∧ x.f3.length ≤ maxLen ∧ ∀ y ∈ x.f3, y.f0.size ≤ maxLen ∧ y.f1.length ≤ maxLen
def ltTable (x : S33) : Nat := x.f1.length + x.f3.length
def cvTable (x : S33) : S39 := ⟨x.f0, x.f1.map cvColumn, x.f2, x.f3.map cvIndex⟩
theorem cvTable_si (x : S33) (h : smTable x) : siTable (cvTable x) := by
  obtain ⟨h1, h2, h3⟩ := h
  refine ⟨by show (x.f1.map cvColumn).length ≤ _; rw [List.length_map]; exact h1, by show (x.f3.map cvIndex).length ≤ _; rw [List.length_map]; exact h2, fun y hy => ?_⟩
  obtain ⟨z, hz, rfl⟩ := List.mem_map.1 (show y ∈ x.f3.map cvIndex from hy)
  exact h3 z hz
theorem toTable_at (x : S33) (hx : smTable x) (k : Nat) (hk : 2097152 < k) : laws_toTable.f k x.f0 x.f1 x.f2 x.f3 = some ((cvTable x).f0, (cvTable x).f1, (cvTable x).f2, (cvTable x).f3) := toTable_is x.f0 x.f1 x.f2 x.f3 hx.1 hx.2.1 hx.2.2 k hk
theorem eqTable_at (x : S39) (hx : siTable x) (k : Nat) (hk : 2097152 < k) : laws_eqTable.f k x.f0 x.f1 x.f2 x.f3 x.f0 x.f1 x.f2 x.f3 = some true := eqTable_refl x.f0 x.f1 x.f2 x.f3 hx.1 hx.2.1 hx.2.2 k hk
theorem szTable_at (x : S33) (hx : wfTable x) (m : Int) (hm : 0 ≤ m ∧ m ≤ 1048576) (k : Nat) (hk : ltTable x < k) : ∃ n, laws_szTable.f k x.f0 x.f1 x.f2 x.f3 m = some n ∧ -1 ≤ n ∧ n ≤ m ∧ (n < 0 ∨ smTable x) := by
  obtain ⟨h0, h1, h2, h3, h4⟩ := hx
  obtain ⟨n, e, a, b, c⟩ := szTable_is x.f0 x.f1 x.f2 x.f3 h0 h1 h2 h3 h4 m hm k hk
  exact ⟨n, e, a, b, c.imp id fun h => h.2⟩
theorem rdlTable_ (V : List S33) (i : Nat) (h : i < V.length) : rd_T33 V (i : Int) = V[i] := by simp [rd_T33, h]
theorem rdiTable_ (V : List S39) (i : Nat) (h : i < V.length) : rd_T39 V (i : Int) = V[i] := by simp [rd_T39, h]
theorem eqTableS_l0 (V : List S39) (hV : V.length ≤ 1048576) (hx : ∀ x ∈ V, siTable x) (d : Nat) : ∀ k i, 2097152 < k → V.length - i = d → i ≤ V.length → laws_eqTableS.l0 (k + d + 1) V V (i : Int) = some true := by
  induction d with
  | zero => intro k i hk h1 h2; rw [laws_eqTableS.l0, if_neg (by omega)]
  | succ d ih =>
    intro k i hk h1 h2
    rw [show k + (d + 1) + 1 = (k + d + 1) + 1 by omega, laws_eqTableS.l0, if_pos (by omega), if_pos (by omega), if_pos (by omega), rdiTable_ V i (by omega), eqTable_at V[i] (hx _ (List.getElem_mem (by omega))) (k + d + 1) (by omega), Option.bind_some, if_pos rfl, next64 i V.length (by omega) (by simp only [maxLen]; omega)]
    exact ih k (i + 1) hk (by omega) (by omega)
theorem eqTableS_refl (V : List S39) (hV : V.length ≤ 1048576) (hx : ∀ x ∈ V, siTable x) (k : Nat) (hk : V.length + 2097152 + 1 < k) : laws_eqTableS.f k V V = some true := by
  obtain ⟨k, rfl⟩ : ∃ m, k = m + V.length + 1 := ⟨k - V.length - 1, by omega⟩
  unfold laws_eqTableS.f
  rw [if_pos rfl]
  exact eqTableS_l0 V hV hx V.length k 0 (by omega) (by omega) (by omega)
theorem toTableS_l0 (L : List S33) (hV : L.length ≤ 1048576) (hx : ∀ x ∈ L, smTable x) (d : Nat) : ∀ k i (R : List S39), 2097152 < k → L.length - i = d → i ≤ L.length → R.length = L.length →
    laws_toTableS.l0 (k + d + 1) L R (i : Int) = some (R.take i ++ (L.drop i).map cvTable) := by
  induction d with
  | zero =>
    intro k i R hk h1 h2 h3
    rw [laws_toTableS.l0, if_neg (by omega), List.take_of_length_le (by omega), List.drop_of_length_le (by omega), List.map_nil, List.append_nil]
  | succ d ih =>
    intro k i R hk h1 h2 h3
    have hlt : i < L.length := by omega
    rw [show k + (d + 1) + 1 = (k + d + 1) + 1 by omega, laws_toTableS.l0, if_pos (by omega), if_pos (by omega), rdlTable_ L i hlt, toTable_at L[i] (hx _ (List.getElem_mem hlt)) (k + d + 1) (by omega)]
    rw [Option.bind_some, if_pos (by omega), next64 i L.length (by omega) (by simp only [maxLen]; omega), ih k (i + 1) _ hk (by omega) (by omega) (by rw [List.length_set]; exact h3)]
    congr 1
    rw [show (i : Int).toNat = i from rfl, List.drop_eq_getElem_cons hlt, List.map_cons]
    refine (congrArg (· ++ _) (show List.take (i + 1) (R.set i (cvTable L[i])) = List.take i R ++ [cvTable L[i]] from ?_)).trans ?_
    · rw [List.take_succ_eq_append_getElem (by rw [List.length_set]; omega), List.getElem_set_self]
      congr 1
      exact List.take_set_of_le (Nat.le_refl i)
    · rw [List.append_assoc]; rfl
theorem toTableS_is (L : List S33) (hV : L.length ≤ 1048576) (hx : ∀ x ∈ L, smTable x) (k : Nat) (hk : L.length + 2097152 + 1 < k) : laws_toTableS.f k L = some (L.map cvTable) := by
  obtain ⟨k, rfl⟩ : ∃ m, k = m + L.length + 1 := ⟨k - L.length - 1, by omega⟩
  unfold laws_toTableS.f
  rw [if_pos (by omega), if_pos (by omega)]
  have := toTableS_l0 L hV hx L.length k 0 (List.replicate ((L.length : Int)).toNat z39) (by omega) (by omega) (by omega) (by simp)
  simpa using this
theorem szTableS_l0 (L : List S33) (hV : L.length ≤ 1048576) (M : Nat) (hx : ∀ x ∈ L, wfTable x ∧ ltTable x ≤ M) (d : Nat) : ∀ k i (m : Int), M < k → L.length - i = d → i ≤ L.length → 0 ≤ m ∧ m ≤ 1048576 →
    ∃ n, laws_szTableS.l0 (k + d + 1) L m (i : Int) = some n ∧ -1 ≤ n ∧ n ≤ m ∧ (n < 0 ∨ ∀ x ∈ L.drop i, smTable x) := by
  induction d with
  | zero => intro k i m hk h1 h2 hm; exact ⟨_, by rw [laws_szTableS.l0, if_neg (by omega)], by omega, by omega, .inr (fun x hx => by rw [List.drop_of_length_le (by omega)] at hx; cases hx)⟩
  | succ d ih =>
    intro k i m hk h1 h2 hm
    have hlt : i < L.length := by omega
    have hw := hx L[i] (List.getElem_mem hlt)
    rw [show k + (d + 1) + 1 = (k + d + 1) + 1 by omega, laws_szTableS.l0, if_pos (by omega), if_pos (by omega), rdlTable_ L i hlt]
    obtain ⟨n, e, h3, h4, h5⟩ := szTable_at L[i] hw.1 m hm (k + d + 1) (by omega)
    rw [e, Option.bind_some]
    by_cases hn : n < 0
    · rw [if_pos hn]; exact ⟨_, rfl, by omega, by omega, .inl (by omega)⟩
    · rw [if_neg hn, next64 i L.length (by omega) (by simp only [maxLen]; omega)]
      obtain ⟨n2, e2, h6, h7, h8⟩ := ih k (i + 1) n hk (by omega) (by omega) (by omega)
      refine ⟨n2, e2, by omega, by omega, ?_⟩
      rcases h8 with h8 | h8
      · exact .inl h8
      · refine .inr (fun x hx => ?_)
        rw [List.drop_eq_getElem_cons hlt] at hx
        rcases List.mem_cons.1 hx with rfl | hx
        · exact h5.resolve_left hn
        · exact h8 x hx
theorem szTableS_is (L : List S33) (hM : L.length ≤ maxLen) (M : Nat) (hx : ∀ x ∈ L, wfTable x ∧ ltTable x ≤ M) (m : Int) (hm : 0 ≤ m ∧ m ≤ 1048576) (k : Nat) (hk : L.length + M + 1 < k) :
    ∃ n, laws_szTableS.f k L m = some n ∧ -1 ≤ n ∧ n ≤ m ∧ (n < 0 ∨ (L.length ≤ 1048576 ∧ ∀ x ∈ L, smTable x)) := by
  simp only [maxLen] at hM
  unfold laws_szTableS.f
  rw [wrap_in (m - (L.length : Int)) (by omega)]
  by_cases c : m - (L.length : Int) < 0
  · rw [if_pos c]; exact ⟨_, rfl, by omega, by omega, .inl (by omega)⟩
  rw [if_neg c]
  obtain ⟨k, rfl⟩ : ∃ q, k = q + L.length + 1 := ⟨k - L.length - 1, by omega⟩
  obtain ⟨n, e, h1, h2, h3⟩ := szTableS_l0 L (by omega) M hx L.length k 0 (m - (L.length : Int)) (by omega) (by omega) (by omega) (by omega)
  exact ⟨n, e, by omega, by omega, h3.imp id fun h => ⟨by omega, by simpa using h⟩⟩

/-- A table's rounds. -/
def rdTable (x : S33) : Nat := x.f0.size + x.f1.length + x.f3.length + x.f1.length + x.f3.length + 600
theorem small_of (L : List S33) (hw : ∀ x ∈ L, wfTable x) : ∃ B, (∀ x ∈ L, smTable x) → ∀ x ∈ L, SmallT B (cvTable x).f1 (cvTable x).f3 := by
  induction L with
  | nil => exact ⟨0, fun _ x h => by cases h⟩
  | cons y ys ih =>
    obtain ⟨B, hB⟩ := ih (fun x h => hw x (List.mem_cons_of_mem _ h))
    obtain ⟨h0, h1, h2, h3, h4⟩ := hw y (List.mem_cons_self ..)
    obtain ⟨B2, hB2⟩ := bound_if y.f1 y.f3 h2 (fun x h => (h4 x h).1)
    refine ⟨B + B2, fun hs x hx => ?_⟩
    have up : ∀ (b c : Nat) C X, b ≤ c → SmallT b C X → SmallT c C X := fun b c C X hbc h => ⟨fun x hx => ⟨(h.1 x hx).1, Nat.le_trans (h.1 x hx).2 hbc⟩, fun x hx => ⟨(h.2 x hx).1, (h.2 x hx).2.1, Nat.le_trans (h.2 x hx).2.2 hbc⟩⟩
    rcases List.mem_cons.1 hx with rfl | hx
    · exact up B2 _ _ _ (by omega) (hB2 (hs _ (List.mem_cons_self ..)).2.2)
    · exact up B _ _ _ (by omega) (hB (fun z hz => hs z (List.mem_cons_of_mem _ hz)) x hx)
end Go.Proofs.YtjknmljdnolilaaDoor.Pure
end

section
/- A catalog is right for both or for neither. -/
namespace Go.Proofs.YtjknmljdnolilaaDoor.Pure
open Go.RowKit Go.Proofs.YtjknmljdnolilaaDoor.X Go.Proofs.YtjknmljdnolilaaDoorW.PrintWords Go.Proofs.YtjknmljdnolilaaDoorW.PrintLast
theorem prev64 (i n : Nat) (h0 : 0 < i) (h : i ≤ n) (hn : n ≤ maxLen) : wrap64 ((i : Int) - 1) = ((i - 1 : Nat) : Int) := by simp only [maxLen] at hn; unfold wrap64; omega
theorem cat_loop (V : List S39) (hV : V.length ≤ 1048576) (kt : Nat) (hT : ∀ x ∈ V, ∃ r, ∀ k, kt < k → spec_TableOK.f k x.f0 x.f1 x.f2 x.f3 = some r ∧ impl_TableOK.f k x.f0 x.f1 x.f2 x.f3 = some r) (d : Nat) : ∀ k i, kt < k → i + d = V.length →
    ∃ r, spec_CatalogOK.l0 (k + d + 1) V (i : Int) = some r ∧ impl_CatalogOK.l0 (k + d + 1) V V (V.length : Int) (i : Int) = some (r && decide ((V.length : Int) ≤ 6)) := by
  induction d with
  | zero => intro k i hk h; rw [spec_CatalogOK.l0, impl_CatalogOK.l0, if_neg (by omega), if_neg (by omega)]; exact ⟨_, rfl, rfl⟩
  | succ d ih =>
    intro k i hk h
    have hlt : i < V.length := by omega
    obtain ⟨r, e1, e2⟩ := ih k (i + 1) hk (by omega)
    obtain ⟨t, ht⟩ := hT V[i] (List.getElem_mem hlt)
    obtain ⟨f1, f2⟩ := ht (k + d + 1) (by omega)
    rw [show k + (d + 1) + 1 = (k + d + 1) + 1 by omega, spec_CatalogOK.l0, impl_CatalogOK.l0, if_pos (show (i : Int) < (V.length : Int) by omega), if_pos (show (0 : Int) ≤ (i : Int) by omega), if_pos (show (i : Int) < (V.length : Int) by omega), if_pos (show (0 : Int) ≤ (i : Int) by omega), if_pos (show (i : Int) < (V.length : Int) by omega), rdiTable_ V i hlt, f1, f2, Option.bind_some, Option.bind_some, next64 i V.length hlt (by simp only [maxLen]; omega), e1, e2]
    cases t with
    | false => exact ⟨false, rfl, rfl⟩
    | true =>
      rw [if_pos rfl, if_pos rfl]
      by_cases h0 : i = 0
      · have hn : ¬ (i : Int) > 0 := by omega
        simp only [hn, if_false]; exact ⟨r, rfl, rfl⟩
      · have hp : (i : Int) > 0 := by omega
        have hq : (0 : Int) ≤ ((i - 1 : Nat) : Int) := by omega
        have hs : ((i - 1 : Nat) : Int) < (V.length : Int) := by omega
        simp only [hp, if_true, prev64 i V.length (by omega) (by omega) (by simp only [maxLen]; omega), hq, hs, rdiTable_ V (i - 1) (by omega)]
        split
        · exact ⟨r, rfl, rfl⟩
        · exact ⟨false, rfl, rfl⟩
theorem catalog_same (V : List S39) (hV : V.length ≤ 1048576) (kt : Nat) (hT : ∀ x ∈ V, ∃ r, ∀ k, kt < k → spec_TableOK.f k x.f0 x.f1 x.f2 x.f3 = some r ∧ impl_TableOK.f k x.f0 x.f1 x.f2 x.f3 = some r) (k : Nat) (hk : kt + V.length + 1 < k) :
    ∃ r, spec_CatalogOK.f k V = some r ∧ impl_CatalogOK.f k V = some r := by
  obtain ⟨k, rfl⟩ : ∃ m, k = m + V.length + 1 := ⟨k - V.length - 1, by omega⟩
  obtain ⟨r, e1, e2⟩ := cat_loop V hV kt hT V.length k 0 (by omega) (by omega)
  unfold spec_CatalogOK.f impl_CatalogOK.f
  rw [show (0 : Int) = ((0 : Nat) : Int) from rfl, e1, e2]
  by_cases h6 : (V.length : Int) > 6
  · have hd : decide ((V.length : Int) ≤ 6) = false := decide_eq_false (by omega)
    rw [hd, Bool.and_false]
    by_cases h4 : (V.length : Int) > 4096
    · rw [if_pos h4]; exact ⟨_, rfl, rfl⟩
    · rw [if_neg h4, if_pos h6]; exact ⟨_, rfl, rfl⟩
  · have hd : decide ((V.length : Int) ≤ 6) = true := decide_eq_true (by omega)
    rw [hd, Bool.and_true, if_neg (by omega), if_neg h6]; exact ⟨_, rfl, rfl⟩
end Go.Proofs.YtjknmljdnolilaaDoor.Pure
end

section
/-
  DERIVED. GIVEN WITH THE SEED: THE PROGRAM's TIES (one call each: nine closed facts by the kernel) AND EACH ROW's TIE, after the 31st guide's Derived/Test/Toyas{Tie, Card}.lean. No idea stands in it: it is a product of the set-up. Laid BY PROGRAM, IN A SANDBOX (cutbox-door.mjs). By AI agents, Wed Nov 11 2026. No macro, syntax, notation, axiom, sorry.
-/
namespace Go.Proofs.YtjknmljdnolilaaDoor
open Go
set_option maxRecDepth 100000
theorem seatTie1 : Tryd.prog.laidByTextLater [("unicode/utf8.acceptRanges", Rows.laid_unicode_utf8_acceptRanges)] [.data] true :=
  Program.laidByTextLater_by_one 19 8 33 (by kernel_rfl) (by kernel_rfl) (by kernel_rfl) (by kernel_rfl) (by kernel_rfl) (by kernel_rfl) (fun _ _ => by kernel_rfl)
theorem pin_laid_unicode_utf8_first : Tryd.pinned.checked.prog.pinnedFits "unicode/utf8.first" = true := by kernel_rfl
theorem noOwnUnsafe : Tryd.pinned.checked.prog.headLifts.contains "ownunsafe" = false := by kernel_rfl
theorem fits1 : Tryd.pinned.checked.prog.listedFits [("unicode/utf8.acceptRanges", Rows.laid_unicode_utf8_acceptRanges), ("unicode/utf8.first", Rows.laid_unicode_utf8_first)] = true := by
  unfold Program.listedFits
  rw [noOwnUnsafe]
  kernel_rfl
theorem tie : Tryd.prog.laidByTextLater [("unicode/utf8.acceptRanges", Rows.laid_unicode_utf8_acceptRanges)] [.data] true :=
  Program.laidByTextLater.sub seatTie1 ["unicode/utf8.acceptRanges"] (by kernel_rfl) (by kernel_rfl)
theorem fnExactFindField_row_tie : Rows.fnExactFindFieldRow.laidByTextAt .later Tryd.pinned [.data, .pinned] true :=
  OpenClaim.laidByTextAt_pinned rfl rfl tie rfl rfl rfl rfl (fun y hy _e => by
    simp only [Rows.fnExactFindFieldRow, List.zip_cons_cons, List.zip_nil_right, List.mem_cons, List.mem_nil_iff, or_false] at hy
    rcases hy with rfl | rfl
    · cases _e
    · exact ⟨pin_laid_unicode_utf8_first, by kernel_rfl⟩) fits1
theorem fnExactTableOK_row_tie : Rows.fnExactTableOKRow.laidByTextAt .later Tryd.pinned [.data, .pinned] true :=
  OpenClaim.laidByTextAt_pinned rfl rfl tie rfl rfl rfl rfl (fun y hy _e => by
    simp only [Rows.fnExactTableOKRow, List.zip_cons_cons, List.zip_nil_right, List.mem_cons, List.mem_nil_iff, or_false] at hy
    rcases hy with rfl | rfl
    · cases _e
    · exact ⟨pin_laid_unicode_utf8_first, by kernel_rfl⟩) fits1
theorem fnExactCatalogOK_row_tie : Rows.fnExactCatalogOKRow.laidByTextAt .later Tryd.pinned [.data, .pinned] true :=
  OpenClaim.laidByTextAt_pinned rfl rfl tie rfl rfl rfl rfl (fun y hy _e => by
    simp only [Rows.fnExactCatalogOKRow, List.zip_cons_cons, List.zip_nil_right, List.mem_cons, List.mem_nil_iff, or_false] at hy
    rcases hy with rfl | rfl
    · cases _e
    · exact ⟨pin_laid_unicode_utf8_first, by kernel_rfl⟩) fits1
theorem fnExactCheckRow_row_tie : Rows.fnExactCheckRowRow.laidByTextAt .later Tryd.pinned [.data, .pinned] true :=
  OpenClaim.laidByTextAt_pinned rfl rfl tie rfl rfl rfl rfl (fun y hy _e => by
    simp only [Rows.fnExactCheckRowRow, List.zip_cons_cons, List.zip_nil_right, List.mem_cons, List.mem_nil_iff, or_false] at hy
    rcases hy with rfl | rfl
    · cases _e
    · exact ⟨pin_laid_unicode_utf8_first, by kernel_rfl⟩) fits1
theorem fnExactFindFieldUpto_row_tie : Rows.fnExactFindFieldUptoRow.laidByTextAt .later Tryd.pinned [.data, .pinned] true :=
  OpenClaim.laidByTextAt_pinned rfl rfl tie rfl rfl rfl rfl (fun y hy _e => by
    simp only [Rows.fnExactFindFieldUptoRow, List.zip_cons_cons, List.zip_nil_right, List.mem_cons, List.mem_nil_iff, or_false] at hy
    rcases hy with rfl | rfl
    · cases _e
    · exact ⟨pin_laid_unicode_utf8_first, by kernel_rfl⟩) fits1
theorem fnExactTableOKUpto_row_tie : Rows.fnExactTableOKUptoRow.laidByTextAt .later Tryd.pinned [.data, .pinned] true :=
  OpenClaim.laidByTextAt_pinned rfl rfl tie rfl rfl rfl rfl (fun y hy _e => by
    simp only [Rows.fnExactTableOKUptoRow, List.zip_cons_cons, List.zip_nil_right, List.mem_cons, List.mem_nil_iff, or_false] at hy
    rcases hy with rfl | rfl
    · cases _e
    · exact ⟨pin_laid_unicode_utf8_first, by kernel_rfl⟩) fits1
theorem fnExactCatalogOKUpto_row_tie : Rows.fnExactCatalogOKUptoRow.laidByTextAt .later Tryd.pinned [.data, .pinned] true :=
  OpenClaim.laidByTextAt_pinned rfl rfl tie rfl rfl rfl rfl (fun y hy _e => by
    simp only [Rows.fnExactCatalogOKUptoRow, List.zip_cons_cons, List.zip_nil_right, List.mem_cons, List.mem_nil_iff, or_false] at hy
    rcases hy with rfl | rfl
    · cases _e
    · exact ⟨pin_laid_unicode_utf8_first, by kernel_rfl⟩) fits1
theorem fnExactCheckRowUpto_row_tie : Rows.fnExactCheckRowUptoRow.laidByTextAt .later Tryd.pinned [.data, .pinned] true :=
  OpenClaim.laidByTextAt_pinned rfl rfl tie rfl rfl rfl rfl (fun y hy _e => by
    simp only [Rows.fnExactCheckRowUptoRow, List.zip_cons_cons, List.zip_nil_right, List.mem_cons, List.mem_nil_iff, or_false] at hy
    rcases hy with rfl | rfl
    · cases _e
    · exact ⟨pin_laid_unicode_utf8_first, by kernel_rfl⟩) fits1
end Go.Proofs.YtjknmljdnolilaaDoor
end

section
/-
  DERIVED. GIVEN WITH THE SEED: THE CARDS: each row of YtjknmljdnolilaaDoorRows.lean that lists a variable, with what it lists TIED to the program's text (the seventh form; the later family's looks); each row that meets fmt, with fmt's text TOLD by the authors' own Lean function (tested against real Go, not proved from fmt's source: count such statements apart). THE CARD IS WHAT COUNTS. Prove the row's statement (the work); the ties are given (YtjknmljdnolilaaDoorTie.lean); close each card by the builder's one call (the guide's Derived/Test/ToyasCard.lean, 'card_holds'). Laid BY PROGRAM, IN A SANDBOX (cutbox-door.mjs). By AI agents, Wed Nov 11 2026. No macro, syntax, notation, axiom, sorry.
-/
namespace Go.Proofs.YtjknmljdnolilaaDoor
namespace Rows

/-- THE TIED CARD OF 'laws.FnExactFindField'. -/
def fnExactFindFieldCard : Claim7 := { stood := { row := fnExactFindFieldRow, standIns := [], harness := (true, "bd0432c2e7d5251c135caa945b578245fae344f8b353aaff26c66b309a7da4e2"), looks := false }, kinds := [], alts := [], laidByText := true, laidKinds := [.data, .pinned], laidTests := true, laidLooks := .later }
def FnExactFindFieldCardSaid : Prop := Claim7.holds Tryd.pinned (.plain (OpenSpec.ofChange fnExactFindFieldSpec)) fnExactFindFieldCard

/-- THE TIED CARD OF 'laws.FnExactTableOK'. -/
def fnExactTableOKCard : Claim7 := { stood := { row := fnExactTableOKRow, standIns := [], harness := (true, "bd0432c2e7d5251c135caa945b578245fae344f8b353aaff26c66b309a7da4e2"), looks := false }, kinds := [], alts := [], laidByText := true, laidKinds := [.data, .pinned], laidTests := true, laidLooks := .later }
def FnExactTableOKCardSaid : Prop := Claim7.holds Tryd.pinned (.plain (OpenSpec.ofChange fnExactTableOKSpec)) fnExactTableOKCard

/-- THE TIED CARD OF 'laws.FnExactCatalogOK'. -/
def fnExactCatalogOKCard : Claim7 := { stood := { row := fnExactCatalogOKRow, standIns := [], harness := (true, "bd0432c2e7d5251c135caa945b578245fae344f8b353aaff26c66b309a7da4e2"), looks := false }, kinds := [], alts := [], laidByText := true, laidKinds := [.data, .pinned], laidTests := true, laidLooks := .later }
def FnExactCatalogOKCardSaid : Prop := Claim7.holds Tryd.pinned (.plain (OpenSpec.ofChange fnExactCatalogOKSpec)) fnExactCatalogOKCard

/-- THE TIED CARD OF 'laws.FnExactCheckRow'. -/
def fnExactCheckRowCard : Claim7 := { stood := { row := fnExactCheckRowRow, standIns := [], harness := (true, "bd0432c2e7d5251c135caa945b578245fae344f8b353aaff26c66b309a7da4e2"), looks := false }, kinds := [], alts := [], laidByText := true, laidKinds := [.data, .pinned], laidTests := true, laidLooks := .later }
def FnExactCheckRowCardSaid : Prop := Claim7.holds Tryd.pinned (.plain (OpenSpec.ofChange fnExactCheckRowSpec)) fnExactCheckRowCard

/-- THE SECOND FORM's CARD OF 'laws.FnExactFindField'. -/
def fnExactFindFieldUptoCard : Claim7 := { stood := { row := fnExactFindFieldUptoRow, standIns := [], harness := (true, "bd0432c2e7d5251c135caa945b578245fae344f8b353aaff26c66b309a7da4e2"), looks := false }, kinds := [], alts := [], laidByText := true, laidKinds := [.data, .pinned], laidTests := true, laidLooks := .later }
def FnExactFindFieldUptoCardSaid : Prop := Claim7.holds Tryd.pinned (.plain (OpenSpec.upto fnExactFindFieldSpec)) fnExactFindFieldUptoCard

/-- THE SECOND FORM's CARD OF 'laws.FnExactTableOK'. -/
def fnExactTableOKUptoCard : Claim7 := { stood := { row := fnExactTableOKUptoRow, standIns := [], harness := (true, "bd0432c2e7d5251c135caa945b578245fae344f8b353aaff26c66b309a7da4e2"), looks := false }, kinds := [], alts := [], laidByText := true, laidKinds := [.data, .pinned], laidTests := true, laidLooks := .later }
def FnExactTableOKUptoCardSaid : Prop := Claim7.holds Tryd.pinned (.plain (OpenSpec.upto fnExactTableOKSpec)) fnExactTableOKUptoCard

/-- THE SECOND FORM's CARD OF 'laws.FnExactCatalogOK'. -/
def fnExactCatalogOKUptoCard : Claim7 := { stood := { row := fnExactCatalogOKUptoRow, standIns := [], harness := (true, "bd0432c2e7d5251c135caa945b578245fae344f8b353aaff26c66b309a7da4e2"), looks := false }, kinds := [], alts := [], laidByText := true, laidKinds := [.data, .pinned], laidTests := true, laidLooks := .later }
def FnExactCatalogOKUptoCardSaid : Prop := Claim7.holds Tryd.pinned (.plain (OpenSpec.upto fnExactCatalogOKSpec)) fnExactCatalogOKUptoCard

/-- THE SECOND FORM's CARD OF 'laws.FnExactCheckRow'. -/
def fnExactCheckRowUptoCard : Claim7 := { stood := { row := fnExactCheckRowUptoRow, standIns := [], harness := (true, "bd0432c2e7d5251c135caa945b578245fae344f8b353aaff26c66b309a7da4e2"), looks := false }, kinds := [], alts := [], laidByText := true, laidKinds := [.data, .pinned], laidTests := true, laidLooks := .later }
def FnExactCheckRowUptoCardSaid : Prop := Claim7.holds Tryd.pinned (.plain (OpenSpec.upto fnExactCheckRowSpec)) fnExactCheckRowUptoCard
end Rows
end Go.Proofs.YtjknmljdnolilaaDoor
end
