/- Contracts of functions, and what is told of them. -/
import Derived.Test.YtjknmljdnolilaaGreatDoorYFnExactTableText3
import Derived.Test.YtjknmljdnolilaaGreatDoorYFnExactTableText9
import Derived.Test.YtjknmljdnolilaaGreatDoorYFnExactTableText16
import Derived.Test.YtjknmljdnolilaaGreatDoorYFnExactTableText8
import Derived.Test.YtjknmljdnolilaaGreatDoorYFnExactTableText15
import Derived.Test.YtjknmljdnolilaaGreatDoorYFnExactTableText19
import Derived.Test.YtjknmljdnolilaaGreatDoorYFnExactTableText20
import Derived.OpenShut
import Derived.Test.YtjknmljdnolilaaGreatDoorRows
import Derived.LaidByTextLater
import Derived.SevenTiedAt
import Derived.LaidSub
import Derived.LaidOnce
import GoSem.ClaimSeven
set_option linter.unusedSimpArgs false
set_option linter.unusedVariables false
section
/- The text of a right table: the program's and the reference's are the same bytes. -/
namespace Go.Proofs.YtjknmljdnolilaaGreatDoor.Pure
open Go.RowKit Go.Proofs.YtjknmljdnolilaaGreatDoor.X Go.Proofs.YtjknmljdnolilaaGreatDoorW.PrintWords Go.Proofs.YtjknmljdnolilaaGreatDoorW.PrintLast
theorem tl_app (a b : ByteArray) : (a ++ b).toList = a.toList ++ b.toList := by rw [toList_eq, toList_eq, toList_eq, ByteArray.data_append, Array.toList_append]
theorem tl_lit (l : List UInt8) : (⟨l.toArray⟩ : ByteArray).toList = l := by rw [toList_eq]
theorem sz_of {a : ByteArray} {l : List UInt8} (h : a.toList = l) : a.size = l.length := by rw [← h, length_toList]
def sp2 : List UInt8 := [44, 32]
def tws : List ByteArray := [(⟨#[]⟩ : ByteArray), (⟨#[98, 111, 111, 108]⟩ : ByteArray), (⟨#[105, 110, 116]⟩ : ByteArray), (⟨#[116, 101, 120, 116]⟩ : ByteArray), (⟨#[98, 121, 116, 101, 115]⟩ : ByteArray)]
theorem tws_le (t : Int) : (rdOf ByteArray.empty tws t).size ≤ 5 := by
  unfold rdOf
  by_cases h : t.toNat < tws.length
  · have hall : ∀ x ∈ tws, x.size ≤ 5 := by decide
    have : tws[t.toNat]? = some tws[t.toNat] := List.getElem?_eq_getElem h
    simp only [List.getD, this, Option.getD_some]
    exact hall _ (List.getElem_mem h)
  · have : tws[t.toNat]? = none := List.getElem?_eq_none (by omega)
    simp only [List.getD, this, Option.getD_none]
    decide
def colB (c : S81) : ByteArray := if c.f2 = true then ((c.f0 ++ (⟨#[32]⟩ : ByteArray)) ++ rdOf ByteArray.empty tws c.f1) ++ (⟨#[32, 110, 117, 108, 108]⟩ : ByteArray) else (c.f0 ++ (⟨#[32]⟩ : ByteArray)) ++ rdOf ByteArray.empty tws c.f1
theorem s1_ : (⟨#[32]⟩ : ByteArray).size = 1 := rfl
theorem s2_ : (⟨#[44, 32]⟩ : ByteArray).size = 2 := rfl
theorem s3_ : (⟨#[40]⟩ : ByteArray).size = 1 := rfl
theorem s4_ : (⟨#[41]⟩ : ByteArray).size = 1 := rfl
theorem s5_ : (⟨#[32, 110, 117, 108, 108]⟩ : ByteArray).size = 5 := rfl
theorem s6_ : (⟨#[41, 32, 107, 101, 121, 32]⟩ : ByteArray).size = 6 := rfl
theorem s7_ : (⟨#[32, 105, 110, 100, 101, 120, 32]⟩ : ByteArray).size = 7 := rfl
theorem colB_le (c : S81) (h : gcol c) : (colB c).size ≤ 51 := by
  have := tws_le c.f1
  have := h.1
  unfold colB
  split <;> simp only [ByteArray.size_append, s1_, s5_] <;> omega
/-- What the columns add. -/
def ctail : Bool → List S81 → List UInt8
  | _, [] => []
  | true, c :: cs => (colB c).toList ++ ctail false cs
  | false, c :: cs => sp2 ++ (colB c).toList ++ ctail false cs
def ntail (C : List S81) : Bool → List Int → List UInt8
  | _, [] => []
  | true, c :: cs => (rd_T81 C c).f0.toList ++ ntail C false cs
  | false, c :: cs => sp2 ++ (rd_T81 C c).f0.toList ++ ntail C false cs
theorem ctail_join : ∀ C : List S81, Lib.join ((C.map colB).map (·.data.toList)) sp2 = ctail true C := by
  have h : ∀ C : List S81, Lib.joinTail sp2 ((C.map colB).map (·.data.toList)) = ctail false C := by
    intro C
    induction C with
    | nil => rfl
    | cons c cs ih =>
      simp only [Lib.joinTail, List.map_cons, List.flatten_cons] at ih ⊢
      rw [ih, ctail, toList_eq]
  intro C
  cases C with
  | nil => rfl
  | cons c cs => rw [List.map_cons, List.map_cons, Lib.join_cons, h, ctail, toList_eq]
theorem ntail_join (C : List S81) : ∀ L : List Int, Lib.join ((L.map fun c => (rd_T81 C c).f0).map (·.data.toList)) sp2 = ntail C true L := by
  have h : ∀ L : List Int, Lib.joinTail sp2 ((L.map fun c => (rd_T81 C c).f0).map (·.data.toList)) = ntail C false L := by
    intro L
    induction L with
    | nil => rfl
    | cons c cs ih =>
      simp only [Lib.joinTail, List.map_cons, List.flatten_cons] at ih ⊢
      rw [ih, ntail, toList_eq]
  intro L
  cases L with
  | nil => rfl
  | cons c cs => rw [List.map_cons, List.map_cons, Lib.join_cons, h, ntail, toList_eq]
theorem ctail_le : ∀ (b : Bool) (C : List S81), (∀ c ∈ C, gcol c) → (ctail b C).length ≤ 53 * C.length
  | _, [], _ => by simp [ctail]
  | true, c :: cs, h => by
    have h1 := colB_le c (h c (List.mem_cons_self ..))
    have h2 := ctail_le false cs (fun x hx => h x (List.mem_cons_of_mem _ hx))
    simp only [ctail, List.length_append, length_toList, List.length_cons]; omega
  | false, c :: cs, h => by
    have h1 := colB_le c (h c (List.mem_cons_self ..))
    have h2 := ctail_le false cs (fun x hx => h x (List.mem_cons_of_mem _ hx))
    have h3 : sp2.length = 2 := rfl
    simp only [ctail, List.length_append, length_toList, List.length_cons, h3]; omega
theorem name_le (C : List S81) (hC : ∀ c ∈ C, gcol c) (i : Int) : (rd_T81 C i).f0.size ≤ 40 := by
  by_cases h : i.toNat < C.length
  · have e : rd_T81 C i = C[i.toNat] := by simp [rd_T81, h]
    rw [e]; exact (hC _ (List.getElem_mem h)).1
  · have e : rd_T81 C i = z81 := by simp [rd_T81, List.getElem?_eq_none (show C.length ≤ i.toNat by omega)]
    rw [e]; decide
theorem ntail_le (C : List S81) (hC : ∀ c ∈ C, gcol c) : ∀ (b : Bool) (L : List Int), (ntail C b L).length ≤ 42 * L.length
  | _, [] => by simp [ntail]
  | true, c :: cs => by
    have h1 := name_le C hC c
    have h2 := ntail_le C hC false cs
    simp only [ntail, List.length_append, length_toList, List.length_cons]; omega
  | false, c :: cs => by
    have h1 := name_le C hC c
    have h2 := ntail_le C hC false cs
    have h3 : sp2.length = 2 := rfl
    simp only [ntail, List.length_append, length_toList, List.length_cons, h3]; omega
def idxB (C : List S81) (x : S84) : List UInt8 := [32, 105, 110, 100, 101, 120, 32] ++ x.f0.toList ++ [40] ++ ntail C true x.f1 ++ [41]
def xtail (C : List S81) (X : List S84) : List UInt8 := (X.map (idxB C)).flatten
theorem xtail_cons (C : List S81) (x : S84) (xs : List S84) : xtail C (x :: xs) = idxB C x ++ xtail C xs := by simp [xtail]
theorem big_ {n : Nat} (h : n ≤ 100000) : n ≤ 9223372036854775807 := by omega
/-! the reference -/
theorem spec_l2 (n0 : ByteArray) (C : List S81) (q : Int) (X : List S84) (hC : ∀ c ∈ C, gcol c) (j : Nat) (hj : j < X.length) (hr : ∀ c ∈ X[j].f1, 0 ≤ c ∧ c < (C.length : Int)) (hl : X[j].f1.length ≤ 8) (hX : X.length ≤ 4) (r : ByteArray) :
    ∀ d i (acc : ByteArray), i + d = X[j].f1.length → acc.size + 42 * d ≤ 90000 →
    (∀ a : ByteArray, a.toList = acc.toList ++ ntail C (decide (i = 0)) (X[j].f1.drop i) ++ [41] → Ev (fun k => spec_l09Text.l1 k a ((j + 1 : Nat) : Int) n0 C q X) r) → Ev (fun k => spec_l09Text.l2 k acc (j : Int) (i : Int) n0 C q X) r
  | 0, i, acc, h, hs, H => by
    have H2 := H (acc ++ (⟨#[41]⟩ : ByteArray)) (by rw [tl_app, List.drop_of_length_le (by omega)]; simp [ntail, tl_lit])
    refine Ev.step (fun k => ?_) H2
    rw [spec_l09Text.l2, if_pos (show (0 : Int) ≤ (j : Int) by omega), if_pos (show (j : Int) < (X.length : Int) by omega), rdiIndex_ X j hj, if_neg (show ¬ (i : Int) < (X[j].f1.length : Int) by omega), if_pos (by omega), next64 j X.length hj (by simp only [maxLen]; omega)]
  | d + 1, i, acc, h, hs, H => by
    have hlt : i < X[j].f1.length := by omega
    have hm := hr _ (List.getElem_mem hlt)
    have hn := name_le C hC X[j].f1[i]
    by_cases h0 : i = 0
    · subst h0
      have ih := spec_l2 n0 C q X hC j hj hr hl hX r d 1 (acc ++ (rd_T81 C X[j].f1[0]).f0) (by omega) (by rw [ByteArray.size_append]; omega) (fun a ha => H a (by
        rw [ha, tl_app, List.drop_eq_getElem_cons hlt]; simp [ntail]))
      refine Ev.step (fun k => ?_) ih
      rw [spec_l09Text.l2, if_pos (show (0 : Int) ≤ (j : Int) by omega), if_pos (show (j : Int) < (X.length : Int) by omega), rdiIndex_ X j hj, if_pos (show ((0 : Nat) : Int) < (X[j].f1.length : Int) by omega), if_neg (show ¬ ((0 : Nat) : Int) > 0 by omega), if_pos (show (0 : Int) ≤ ((0 : Nat) : Int) by omega),
        rd_is X[j].f1 0 hlt, if_pos hm.1, if_pos hm.2, if_pos (by omega), next64 0 X[j].f1.length hlt (by simp only [maxLen]; omega)]
    · have ih := spec_l2 n0 C q X hC j hj hr hl hX r d (i + 1) ((acc ++ (⟨#[44, 32]⟩ : ByteArray)) ++ (rd_T81 C X[j].f1[i]).f0) (by omega) (by rw [ByteArray.size_append, ByteArray.size_append, s2_]; omega) (fun a ha => H a (by
        rw [ha, tl_app, tl_app, List.drop_eq_getElem_cons hlt, show (decide (i + 1 = 0)) = false by simp, show (decide (i = 0)) = false by simpa using h0]; simp [ntail, sp2, tl_lit]))
      refine Ev.step (fun k => ?_) ih
      rw [spec_l09Text.l2, if_pos (show (0 : Int) ≤ (j : Int) by omega), if_pos (show (j : Int) < (X.length : Int) by omega), rdiIndex_ X j hj, if_pos (show (i : Int) < (X[j].f1.length : Int) by omega), if_pos (show (i : Int) > 0 by omega), if_pos (by omega), if_pos (show (0 : Int) ≤ (i : Int) by omega),
        rd_is X[j].f1 i hlt, if_pos hm.1, if_pos hm.2, if_pos (by rw [ByteArray.size_append, s2_]; omega), next64 i X[j].f1.length hlt (by simp only [maxLen]; omega)]
theorem spec_l1 (n0 : ByteArray) (C : List S81) (q : Int) (X : List S84) (hG : Good n0 C q X) : ∀ d j (acc : ByteArray), j + d = X.length → acc.size + 500 * d ≤ 80000 →
    ∃ r : ByteArray, r.toList = acc.toList ++ xtail C (X.drop j) ∧ Ev (fun k => spec_l09Text.l1 k acc (j : Int) n0 C q X) r
  | 0, j, acc, h, hs => ⟨acc, by rw [List.drop_of_length_le (by omega)]; simp [xtail], Ev.step (f := fun _ => some acc) (fun k => by rw [spec_l09Text.l1, if_neg (show ¬ (j : Int) < (X.length : Int) by omega)]) (Ev.now acc)⟩
  | d + 1, j, acc, h, hs => by
    have hj : j < X.length := by omega
    have hg := hG.idxs _ (List.getElem_mem hj)
    have hl : X[j].f1.length ≤ 8 := by have := hg.2.1; have := hG.many; omega
    have hn := ntail_le C hG.cols true X[j].f1
    obtain ⟨a0, e0⟩ : ∃ a : ByteArray, a = acc ++ (((⟨#[32, 105, 110, 100, 101, 120, 32]⟩ : ByteArray) ++ X[j].f0) ++ (⟨#[40]⟩ : ByteArray)) := ⟨_, rfl⟩
    have ha0 : a0.size = acc.size + (7 + X[j].f0.size + 1) := by rw [e0, ByteArray.size_append, ByteArray.size_append, ByteArray.size_append, s7_, s3_]
    obtain ⟨a1, e1⟩ : ∃ a : ByteArray, a = a0 ++ ⟨(ntail C true X[j].f1 ++ [41]).toArray⟩ := ⟨_, rfl⟩
    have ha1 : a1.toList = a0.toList ++ ntail C true X[j].f1 ++ [41] := by rw [e1, tl_app, tl_lit (ntail C true X[j].f1 ++ [41]), List.append_assoc]
    have hs1 : a1.size = a0.size + (ntail C true X[j].f1).length + 1 := by rw [sz_of ha1, List.length_append, List.length_append, length_toList]; rfl
    obtain ⟨r, hr, ev⟩ := spec_l1 n0 C q X hG d (j + 1) a1 (by omega) (by have := hg.1; omega)
    refine ⟨r, ?_, ?_⟩
    · rw [hr, ha1, List.drop_eq_getElem_cons hj, xtail_cons, e0, tl_app, tl_app, tl_app]
      simp [tl_lit, idxB]
    · have e2 := spec_l2 n0 C q X hG.cols j hj hg.2.2 hl hG.some r X[j].f1.length 0 a0 (by omega) (by have := hg.1; omega) (fun a ha => by
        rw [show a = a1 from toList_inj (by rw [ha, ha1, List.drop_zero]; rfl)]; exact ev)
      have hg1 := hg.1
      exact Ev.step (fun k => by
        rw [spec_l09Text.l1, if_pos (show (j : Int) < (X.length : Int) by omega), if_pos (show (0 : Int) ≤ (j : Int) by omega), rdiIndex_ X j hj, if_pos (by omega), if_pos (by rw [ByteArray.size_append, s7_]; omega), if_pos (by rw [ByteArray.size_append, ByteArray.size_append, s7_, s3_]; omega), e0]
        rfl) e2
theorem digit_ (q : Int) (h : 1 ≤ q ∧ q ≤ 8) : Ev (fun k => spec_l00Digits.f k q) (strOfNums [(48 + q) % 256]) :=
  Ev.step (f := fun _ => some (strOfNums [(48 + q) % 256])) (fun k => by
    rw [spec_l00Digits.f, if_neg (by omega), if_neg (by omega), if_pos (by omega), wrap_in (48 + q) (by omega)]) (Ev.now _)
theorem digit_is (q : Int) (h : 1 ≤ q ∧ q ≤ 8) : impl_formatInt.f q = some (strOfNums [(48 + q) % 256]) := by
  unfold impl_formatInt.f strconv_Itoa_88.f
  rw [if_pos (by omega)]
  have : q = 1 ∨ q = 2 ∨ q = 3 ∨ q = 4 ∨ q = 5 ∨ q = 6 ∨ q = 7 ∨ q = 8 := by omega
  rcases this with rfl | rfl | rfl | rfl | rfl | rfl | rfl | rfl <;> (simp only [Option.bind_some]; unfold Lib.decDigits; rfl)
theorem digit_sz (q : Int) : (strOfNums [(48 + q) % 256]).size = 1 := strOfNums_size _
/-- The text's bytes. -/
def textB (n0 : ByteArray) (C : List S81) (q : Int) (X : List S84) : List UInt8 := n0.toList ++ [40] ++ ctail true C ++ [41, 32, 107, 101, 121, 32] ++ (strOfNums [(48 + q) % 256]).toList ++ xtail C X
theorem spec_l0 (n0 : ByteArray) (C : List S81) (q : Int) (X : List S84) (hG : Good n0 C q X) : ∀ d i (acc : ByteArray), i + d = C.length → acc.size + 60 * d ≤ 5000 →
    ∃ r : ByteArray, r.toList = acc.toList ++ ctail (decide (i = 0)) (C.drop i) ++ [41, 32, 107, 101, 121, 32] ++ (strOfNums [(48 + q) % 256]).toList ++ xtail C X ∧ Ev (fun k => spec_l09Text.l0 k acc (i : Int) n0 C q X) r
  | 0, i, acc, h, hs => by
    have hq := hG.key
    have h8 := hG.many
    have h4 := hG.some
    obtain ⟨r, hr, ev⟩ := spec_l1 n0 C q X hG X.length 0 (acc ++ ((⟨#[41, 32, 107, 101, 121, 32]⟩ : ByteArray) ++ strOfNums [(48 + q) % 256])) (by omega) (by rw [ByteArray.size_append, ByteArray.size_append, s6_, digit_sz]; omega)
    refine ⟨r, ?_, ?_⟩
    · rw [hr, tl_app, tl_app, List.drop_of_length_le (show C.length ≤ i by omega)]
      simp [ctail, tl_lit]
    · refine Ev.step (f := fun k => (spec_l00Digits.f k q).bind fun t => if 6 + t.size ≤ 9223372036854775807 then (if acc.size + ((⟨#[41, 32, 107, 101, 121, 32]⟩ : ByteArray) ++ t).size ≤ 9223372036854775807 then (spec_l09Text.l1 k (acc ++ ((⟨#[41, 32, 107, 101, 121, 32]⟩ : ByteArray) ++ t)) 0 n0 C q X) else none) else none) (fun k => by
        rw [spec_l09Text.l0, if_neg (show ¬ (i : Int) < (C.length : Int) by omega)]) ?_
      refine Ev.bind (digit_ q (by omega)) ?_
      refine Ev.congr (f := fun k => spec_l09Text.l1 k (acc ++ ((⟨#[41, 32, 107, 101, 121, 32]⟩ : ByteArray) ++ strOfNums [(48 + q) % 256])) 0 n0 C q X) (fun k => ?_) ev
      rw [if_pos (by rw [digit_sz]; omega), if_pos (by rw [ByteArray.size_append, s6_, digit_sz]; omega)]
  | d + 1, i, acc, h, hs => by
    have hlt : i < C.length := by omega
    have hg := hG.cols _ (List.getElem_mem hlt)
    have h8 := hG.many
    have hb := colB_le _ hg
    have ht := tws_le C[i].f1
    have hn := hg.1
    have hty : C[i].f1 < (tws.length : Int) := by have := hg.2.2; show C[i].f1 < 5; omega
    by_cases h0 : i = 0
    · subst h0
      obtain ⟨r, hr, ev⟩ := spec_l0 n0 C q X hG d 1 (acc ++ colB C[0]) (by omega) (by rw [ByteArray.size_append]; omega)
      refine ⟨r, by rw [hr, tl_app, List.drop_eq_getElem_cons hlt]; simp [ctail], Ev.step (fun k => ?_) ev⟩
      rw [spec_l09Text.l0, if_pos (show ((0 : Nat) : Int) < (C.length : Int) by omega), if_neg (show ¬ ((0 : Nat) : Int) > 0 by omega), if_pos (show (0 : Int) ≤ ((0 : Nat) : Int) by omega), rdiColumn_ C 0 hlt, if_pos (by omega), show spec_l09Types.f = some tws from rfl, Option.bind_some,
        if_pos (show (0 : Int) ≤ C[0].f1 by have := hg.2.1; omega), if_pos hty, if_pos (by rw [ByteArray.size_append, s1_]; omega), if_pos (by rw [ByteArray.size_append, ByteArray.size_append, s1_]; omega)]
      unfold colB
      by_cases hnl : C[0].f2 = true
      · rw [if_pos hnl, if_pos hnl, if_pos (by rw [ByteArray.size_append, ByteArray.size_append, ByteArray.size_append, s1_]; omega), ByteArray.append_assoc, next64 0 C.length hlt (by simp only [maxLen]; omega)]
      · rw [if_neg hnl, if_neg hnl, next64 0 C.length hlt (by simp only [maxLen]; omega)]
    · obtain ⟨r, hr, ev⟩ := spec_l0 n0 C q X hG d (i + 1) ((acc ++ (⟨#[44, 32]⟩ : ByteArray)) ++ colB C[i]) (by omega) (by rw [ByteArray.size_append, ByteArray.size_append, s2_]; omega)
      refine ⟨r, by rw [hr, tl_app, tl_app, List.drop_eq_getElem_cons hlt, show (decide (i + 1 = 0)) = false by simp, show (decide (i = 0)) = false by simpa using h0]; simp [ctail, sp2, tl_lit], Ev.step (fun k => ?_) ev⟩
      rw [spec_l09Text.l0, if_pos (show (i : Int) < (C.length : Int) by omega), if_pos (show (i : Int) > 0 by omega), if_pos (by omega), if_pos (show (0 : Int) ≤ (i : Int) by omega), rdiColumn_ C i hlt, if_pos (by omega), show spec_l09Types.f = some tws from rfl, Option.bind_some,
        if_pos (show (0 : Int) ≤ C[i].f1 by have := hg.2.1; omega), if_pos hty, if_pos (by rw [ByteArray.size_append, s1_]; omega), if_pos (by rw [ByteArray.size_append, ByteArray.size_append, ByteArray.size_append, s1_, s2_]; omega)]
      unfold colB
      by_cases hnl : C[i].f2 = true
      · rw [if_pos hnl, if_pos hnl, if_pos (by rw [ByteArray.size_append, ByteArray.size_append, ByteArray.size_append, ByteArray.size_append, s1_, s2_]; omega), ByteArray.append_assoc, next64 i C.length hlt (by simp only [maxLen]; omega)]
      · rw [if_neg hnl, if_neg hnl, next64 i C.length hlt (by simp only [maxLen]; omega)]
theorem spec_text (n0 : ByteArray) (C : List S81) (q : Int) (X : List S84) (hG : Good n0 C q X) : ∃ r : ByteArray, r.toList = textB n0 C q X ∧ Ev (fun k => spec_l09Text.f k n0 C q X) r := by
  have hn := hG.name
  have h8 := hG.many
  obtain ⟨r, hr, ev⟩ := spec_l0 n0 C q X hG C.length 0 (n0 ++ (⟨#[40]⟩ : ByteArray)) (by omega) (by rw [ByteArray.size_append, s3_]; omega)
  refine ⟨r, by rw [hr, tl_app, List.drop_zero, tl_lit [40]]; simp [textB], Ev.congr (fun k => ?_) ev⟩
  unfold spec_l09Text.f
  rw [if_pos (by omega)]; rfl
/-! the program -/
theorem join_is (L : List ByteArray) (J : List UInt8) (h : Lib.join (L.map (·.data.toList)) sp2 = J) (hL : L.length ≤ 100) (hJ : J.length ≤ 10000) : strings_Join.f L (⟨#[44, 32]⟩ : ByteArray) = some ⟨J.toArray⟩ := by
  unfold strings_Join.f
  rw [show (⟨#[44, 32]⟩ : ByteArray).data.toList = sp2 from rfl, h, if_pos ⟨by omega, by omega⟩]
theorem impl_l2 (n0 : ByteArray) (C : List S81) (q : Int) (X : List S84) (hG : Good n0 C q X) (acc : ByteArray) (j : Nat) (hj : j < X.length) (ha : acc.size + 500 ≤ 80000) (r : ByteArray) : ∀ d i (L : List ByteArray), i + d = X[j].f1.length → L = (X[j].f1.take i).map (fun c => (rd_T81 C c).f0) →
    (∀ a : ByteArray, a.toList = acc.toList ++ idxB C X[j] → Ev (fun k => impl_tableText.l1 k a X (X.length : Int) ((j + 1 : Nat) : Int) n0 C q X) r) → Ev (fun k => impl_tableText.l2 k acc L X (X.length : Int) (j : Int) X[j].f1 (X[j].f1.length : Int) (i : Int) n0 C q X X[j].f0 X[j].f1) r
  | 0, i, L, h, hL, H => by
    have hg := hG.idxs _ (List.getElem_mem hj)
    have hg1 := hg.1
    have h4 := hG.some
    have hl : X[j].f1.length ≤ 8 := by have := hg.2.1; have := hG.many; omega
    have hn := ntail_le C hG.cols true X[j].f1
    rw [List.take_of_length_le (by omega)] at hL
    have hjn := join_is L (ntail C true X[j].f1) (by rw [hL]; exact ntail_join C X[j].f1) (by rw [hL, List.length_map]; omega) (by omega)
    have hsz : (⟨(ntail C true X[j].f1).toArray⟩ : ByteArray).size = (ntail C true X[j].f1).length := by simp [ByteArray.size]
    have H2 := H (acc ++ (((((⟨#[32, 105, 110, 100, 101, 120, 32]⟩ : ByteArray) ++ X[j].f0) ++ (⟨#[40]⟩ : ByteArray)) ++ ⟨(ntail C true X[j].f1).toArray⟩) ++ (⟨#[41]⟩ : ByteArray))) (by
      rw [tl_app, tl_app, tl_app, tl_app, tl_app, tl_lit (ntail C true X[j].f1)]; simp [idxB, tl_lit])
    refine Ev.step (fun k => ?_) H2
    rw [impl_tableText.l2, if_neg (show ¬ (i : Int) < (X[j].f1.length : Int) by omega), if_pos (by omega), if_pos (by rw [ByteArray.size_append, s7_]; omega), hjn, Option.bind_some, if_pos (by rw [ByteArray.size_append, ByteArray.size_append, s7_, s3_, hsz]; omega), if_pos (by rw [ByteArray.size_append, ByteArray.size_append, ByteArray.size_append, s7_, s3_, hsz]; omega),
      if_pos (by rw [ByteArray.size_append, ByteArray.size_append, ByteArray.size_append, ByteArray.size_append, s7_, s3_, s4_, hsz]; omega), next64 j X.length hj (by simp only [maxLen]; omega)]
  | d + 1, i, L, h, hL, H => by
    have hlt : i < X[j].f1.length := by omega
    have hg := hG.idxs _ (List.getElem_mem hj)
    have hl : X[j].f1.length ≤ 8 := by have := hg.2.1; have := hG.many; omega
    have hm := hg.2.2 _ (List.getElem_mem hlt)
    have hLl : L.length ≤ 8 := by rw [hL, List.length_map, List.length_take]; omega
    have ih := impl_l2 n0 C q X hG acc j hj ha r d (i + 1) (L ++ [(rd_T81 C X[j].f1[i]).f0]) (by omega) (by rw [hL, List.take_succ_eq_append_getElem hlt, List.map_append]; rfl) H
    refine Ev.step (fun k => ?_) ih
    rw [impl_tableText.l2, if_pos (show (i : Int) < (X[j].f1.length : Int) by omega), if_pos (show (0 : Int) ≤ (i : Int) by omega), if_pos (show (i : Int) < (X[j].f1.length : Int) by omega), rd_is X[j].f1 i hlt, if_pos hm.1, if_pos hm.2, if_pos (by omega), next64 i X[j].f1.length hlt (by simp only [maxLen]; omega)]
theorem impl_l1 (n0 : ByteArray) (C : List S81) (q : Int) (X : List S84) (hG : Good n0 C q X) : ∀ d j (acc : ByteArray), j + d = X.length → acc.size + 500 * d + 500 ≤ 80000 →
    ∃ r : ByteArray, r.toList = acc.toList ++ xtail C (X.drop j) ∧ Ev (fun k => impl_tableText.l1 k acc X (X.length : Int) (j : Int) n0 C q X) r
  | 0, j, acc, h, hs => ⟨acc, by rw [List.drop_of_length_le (by omega)]; simp [xtail], Ev.step (f := fun _ => some acc) (fun k => by rw [impl_tableText.l1, if_neg (show ¬ (j : Int) < (X.length : Int) by omega)]) (Ev.now acc)⟩
  | d + 1, j, acc, h, hs => by
    have hj : j < X.length := by omega
    have h4 := hG.some
    have hg := hG.idxs _ (List.getElem_mem hj)
    have hg1 := hg.1
    have hl : X[j].f1.length ≤ 8 := by have := hg.2.1; have := hG.many; omega
    have hn := ntail_le C hG.cols true X[j].f1
    obtain ⟨a1, e1⟩ : ∃ a : ByteArray, a = acc ++ ⟨(idxB C X[j]).toArray⟩ := ⟨_, rfl⟩
    have ha1 : a1.toList = acc.toList ++ idxB C X[j] := by rw [e1, tl_app, tl_lit (idxB C X[j])]
    have hil : (idxB C X[j]).length ≤ 450 := by simp only [idxB, List.length_append, length_toList, List.length_cons, List.length_nil]; omega
    have hs1 : a1.size = acc.size + (idxB C X[j]).length := by rw [sz_of ha1, List.length_append, length_toList]
    obtain ⟨r, hr, ev⟩ := impl_l1 n0 C q X hG d (j + 1) a1 (by omega) (by omega)
    refine ⟨r, by rw [hr, ha1, List.drop_eq_getElem_cons hj, xtail_cons, List.append_assoc], ?_⟩
    have e2 := impl_l2 n0 C q X hG acc j hj (by omega) r X[j].f1.length 0 [] (by omega) rfl (fun a ha => by rw [show a = a1 from toList_inj (ha.trans ha1.symm)]; exact ev)
    exact Ev.step (fun k => by
      rw [impl_tableText.l1, if_pos (show (j : Int) < (X.length : Int) by omega), if_pos (show (0 : Int) ≤ (j : Int) by omega), if_pos (show (j : Int) < (X.length : Int) by omega), rdiIndex_ X j hj]
      rfl) e2
theorem impl_l0 (n0 : ByteArray) (C : List S81) (q : Int) (X : List S84) (hG : Good n0 C q X) : ∀ d i (L : List ByteArray), i + d = C.length → L = (C.take i).map colB →
    ∃ r : ByteArray, r.toList = textB n0 C q X ∧ Ev (fun k => impl_tableText.l0 k L C (C.length : Int) (i : Int) n0 C q X) r
  | 0, i, L, h, hL => by
    have hq := hG.key
    have h8 := hG.many
    have h4 := hG.some
    have hnm := hG.name
    have hc := ctail_le true C hG.cols
    rw [List.take_of_length_le (by omega)] at hL
    have hjn := join_is L (ctail true C) (by rw [hL]; exact ctail_join C) (by rw [hL, List.length_map]; omega) (by omega)
    have hsz : (⟨(ctail true C).toArray⟩ : ByteArray).size = (ctail true C).length := by simp [ByteArray.size]
    obtain ⟨r, hr, ev⟩ := impl_l1 n0 C q X hG X.length 0 ((((n0 ++ (⟨#[40]⟩ : ByteArray)) ++ ⟨(ctail true C).toArray⟩) ++ (⟨#[41, 32, 107, 101, 121, 32]⟩ : ByteArray)) ++ strOfNums [(48 + q) % 256]) (by omega) (by rw [ByteArray.size_append, ByteArray.size_append, ByteArray.size_append, ByteArray.size_append, s3_, s6_, digit_sz, hsz]; omega)
    refine ⟨r, by rw [hr, tl_app, tl_app, tl_app, tl_app, tl_lit (ctail true C), List.drop_zero]; simp [textB, tl_lit], Ev.step (fun k => ?_) ev⟩
    rw [impl_tableText.l0, if_neg (show ¬ (i : Int) < (C.length : Int) by omega), if_pos (by omega), hjn, Option.bind_some, if_pos (by rw [ByteArray.size_append, s3_, hsz]; omega), if_pos (by rw [ByteArray.size_append, ByteArray.size_append, s3_, hsz]; omega), digit_is q (by omega), Option.bind_some, if_pos (by rw [ByteArray.size_append, ByteArray.size_append, ByteArray.size_append, s3_, s6_, hsz, digit_sz]; omega)]
    rfl
  | d + 1, i, L, h, hL => by
    have hlt : i < C.length := by omega
    have hg := hG.cols _ (List.getElem_mem hlt)
    have h8 := hG.many
    have ht := tws_le C[i].f1
    have hn := hg.1
    have hty : C[i].f1 < (tws.length : Int) := by have := hg.2.2; show C[i].f1 < 5; omega
    have hLl : L.length ≤ 8 := by rw [hL, List.length_map, List.length_take]; omega
    obtain ⟨r, hr, ev⟩ := impl_l0 n0 C q X hG d (i + 1) (L ++ [colB C[i]]) (by omega) (by rw [hL, List.take_succ_eq_append_getElem hlt, List.map_append]; rfl)
    refine ⟨r, hr, Ev.step (fun k => ?_) ev⟩
    rw [impl_tableText.l0, if_pos (show (i : Int) < (C.length : Int) by omega), if_pos (show (0 : Int) ≤ (i : Int) by omega), if_pos (show (i : Int) < (C.length : Int) by omega), rdiColumn_ C i hlt, if_pos (by omega), show impl_typeWords.f = some tws from rfl, Option.bind_some,
      if_pos (show (0 : Int) ≤ C[i].f1 by have := hg.2.1; omega), if_pos hty, if_pos (by rw [ByteArray.size_append, s1_]; omega)]
    unfold colB
    by_cases hnl : C[i].f2 = true
    · rw [if_pos hnl, if_pos hnl, if_pos (by rw [ByteArray.size_append, ByteArray.size_append, s1_]; omega), if_pos (by omega), next64 i C.length hlt (by simp only [maxLen]; omega)]
    · rw [if_neg hnl, if_neg hnl, if_pos (by omega), next64 i C.length hlt (by simp only [maxLen]; omega)]
theorem text_same (n0 : ByteArray) (C : List S81) (q : Int) (X : List S84) (hG : Good n0 C q X) : ∃ r : ByteArray, Ev (fun k => spec_l09Text.f k n0 C q X) r ∧ Ev (fun k => impl_tableText.f k n0 C q X) r := by
  obtain ⟨r, hr, ev⟩ := spec_text n0 C q X hG
  obtain ⟨r2, hr2, ev2⟩ := impl_l0 n0 C q X hG C.length 0 [] (by omega) rfl
  have : r2 = r := toList_inj (hr2.trans hr.symm)
  subst this
  exact ⟨r2, ev, Ev.congr (fun k => rfl) ev2⟩
end Go.Proofs.YtjknmljdnolilaaGreatDoor.Pure
end

section
/-
  DERIVED. GIVEN WITH THE SEED: THE PROGRAM's TIES (one call each: nine closed facts by the kernel) AND EACH ROW's TIE, after the 31st guide's Derived/Test/Toyas{Tie, Card}.lean. No idea stands in it: it is a product of the set-up. Laid BY PROGRAM, IN A SANDBOX (cutbox-door.mjs). By AI agents, Wed Nov 11 2026. No macro, syntax, notation, axiom, sorry.
-/
namespace Go.Proofs.YtjknmljdnolilaaGreatDoor
open Go
set_option maxRecDepth 100000
theorem seatTie1 : Tryz.prog.laidByTextLater [("math/bits.deBruijn32tab", Rows.laid_math_bits_deBruijn32tab), ("math/bits.deBruijn64tab", Rows.laid_math_bits_deBruijn64tab), ("internal/strconv.uint64pow10", Rows.laid_internal_strconv_uint64pow10), ("unicode/utf8.acceptRanges", Rows.laid_unicode_utf8_acceptRanges)] [.data, .data, .data, .data] true :=
  Program.laidByTextLater_by_one 34 8 65 (by kernel_rfl) (by kernel_rfl) (by kernel_rfl) (by kernel_rfl) (by kernel_rfl) (by kernel_rfl) (fun _ _ => by kernel_rfl)
theorem pin_laid_unicode_utf8_first : Tryz.pinned.checked.prog.pinnedFits "unicode/utf8.first" = true := by kernel_rfl
theorem noOwnUnsafe : Tryz.pinned.checked.prog.headLifts.contains "ownunsafe" = false := by kernel_rfl
theorem fits1 : Tryz.pinned.checked.prog.listedFits [("math/bits.deBruijn32tab", Rows.laid_math_bits_deBruijn32tab), ("math/bits.deBruijn64tab", Rows.laid_math_bits_deBruijn64tab), ("internal/strconv.uint64pow10", Rows.laid_internal_strconv_uint64pow10), ("unicode/utf8.acceptRanges", Rows.laid_unicode_utf8_acceptRanges), ("unicode/utf8.first", Rows.laid_unicode_utf8_first)] = true := by
  unfold Program.listedFits
  rw [noOwnUnsafe]
  kernel_rfl
theorem tie : Tryz.prog.laidByTextLater [("math/bits.deBruijn32tab", Rows.laid_math_bits_deBruijn32tab), ("math/bits.deBruijn64tab", Rows.laid_math_bits_deBruijn64tab), ("internal/strconv.uint64pow10", Rows.laid_internal_strconv_uint64pow10), ("unicode/utf8.acceptRanges", Rows.laid_unicode_utf8_acceptRanges)] [.data, .data, .data, .data] true :=
  Program.laidByTextLater.sub seatTie1 ["math/bits.deBruijn32tab", "math/bits.deBruijn64tab", "internal/strconv.uint64pow10", "unicode/utf8.acceptRanges"] (by kernel_rfl) (by kernel_rfl)
theorem fnExactTableText_row_tie : Rows.fnExactTableTextRow.laidByTextAt .later Tryz.pinned [.data, .data, .data, .data, .pinned] true :=
  OpenClaim.laidByTextAt_pinned rfl rfl tie rfl rfl rfl rfl (fun y hy _e => by
    simp only [Rows.fnExactTableTextRow, List.zip_cons_cons, List.zip_nil_right, List.mem_cons, List.mem_nil_iff, or_false] at hy
    rcases hy with rfl | rfl | rfl | rfl | rfl
    · cases _e
    · cases _e
    · cases _e
    · cases _e
    · exact ⟨pin_laid_unicode_utf8_first, by kernel_rfl⟩) fits1
theorem fits2 : Tryz.pinned.checked.prog.listedFits [("unicode/utf8.acceptRanges", Rows.laid_unicode_utf8_acceptRanges), ("unicode/utf8.first", Rows.laid_unicode_utf8_first)] = true := by
  unfold Program.listedFits
  rw [noOwnUnsafe]
  kernel_rfl
theorem tie2 : Tryz.prog.laidByTextLater [("unicode/utf8.acceptRanges", Rows.laid_unicode_utf8_acceptRanges)] [.data] true :=
  Program.laidByTextLater.sub seatTie1 ["unicode/utf8.acceptRanges"] (by kernel_rfl) (by kernel_rfl)
theorem fnExactDataOK_row_tie : Rows.fnExactDataOKRow.laidByTextAt .later Tryz.pinned [.data, .pinned] true :=
  OpenClaim.laidByTextAt_pinned rfl rfl tie2 rfl rfl rfl rfl (fun y hy _e => by
    simp only [Rows.fnExactDataOKRow, List.zip_cons_cons, List.zip_nil_right, List.mem_cons, List.mem_nil_iff, or_false] at hy
    rcases hy with rfl | rfl
    · cases _e
    · exact ⟨pin_laid_unicode_utf8_first, by kernel_rfl⟩) fits2
theorem fnExactTableTextUpto_row_tie : Rows.fnExactTableTextUptoRow.laidByTextAt .later Tryz.pinned [.data, .data, .data, .data, .pinned] true :=
  OpenClaim.laidByTextAt_pinned rfl rfl tie rfl rfl rfl rfl (fun y hy _e => by
    simp only [Rows.fnExactTableTextUptoRow, List.zip_cons_cons, List.zip_nil_right, List.mem_cons, List.mem_nil_iff, or_false] at hy
    rcases hy with rfl | rfl | rfl | rfl | rfl
    · cases _e
    · cases _e
    · cases _e
    · cases _e
    · exact ⟨pin_laid_unicode_utf8_first, by kernel_rfl⟩) fits1
theorem fnExactDataOKUpto_row_tie : Rows.fnExactDataOKUptoRow.laidByTextAt .later Tryz.pinned [.data, .pinned] true :=
  OpenClaim.laidByTextAt_pinned rfl rfl tie2 rfl rfl rfl rfl (fun y hy _e => by
    simp only [Rows.fnExactDataOKUptoRow, List.zip_cons_cons, List.zip_nil_right, List.mem_cons, List.mem_nil_iff, or_false] at hy
    rcases hy with rfl | rfl
    · cases _e
    · exact ⟨pin_laid_unicode_utf8_first, by kernel_rfl⟩) fits2
end Go.Proofs.YtjknmljdnolilaaGreatDoor
end

section
/-
  DERIVED. GIVEN WITH THE SEED: THE CARDS: each row of YtjknmljdnolilaaGreatDoorRows.lean that lists a variable, with what it lists TIED to the program's text (the seventh form; the later family's looks); each row that meets fmt, with fmt's text TOLD by the authors' own Lean function (tested against real Go, not proved from fmt's source: count such statements apart). THE CARD IS WHAT COUNTS. Prove the row's statement (the work); the ties are given (YtjknmljdnolilaaGreatDoorTie.lean); close each card by the builder's one call (the guide's Derived/Test/ToyasCard.lean, 'card_holds'). Laid BY PROGRAM, IN A SANDBOX (cutbox-door.mjs). By AI agents, Wed Nov 11 2026. No macro, syntax, notation, axiom, sorry.
-/
namespace Go.Proofs.YtjknmljdnolilaaGreatDoor
namespace Rows

/-- THE TIED CARD OF 'laws.FnExactTableText'. -/
def fnExactTableTextCard : Claim7 := { stood := { row := fnExactTableTextRow, standIns := [], harness := (true, "3c20b0f05cc1b79d56d3359769c07d148d10b3b82c8c5c332b80819ec71e4ded"), looks := false }, kinds := [], alts := [], laidByText := true, laidKinds := [.data, .data, .data, .data, .pinned], laidTests := true, laidLooks := .later }
def FnExactTableTextCardSaid : Prop := Claim7.holds Tryz.pinned (.plain (OpenSpec.ofChange fnExactTableTextSpec)) fnExactTableTextCard

/-- THE TIED CARD OF 'laws.FnExactDataOK'. -/
def fnExactDataOKCard : Claim7 := { stood := { row := fnExactDataOKRow, standIns := [], harness := (true, "3c20b0f05cc1b79d56d3359769c07d148d10b3b82c8c5c332b80819ec71e4ded"), looks := false }, kinds := [], alts := [], laidByText := true, laidKinds := [.data, .pinned], laidTests := true, laidLooks := .later }
def FnExactDataOKCardSaid : Prop := Claim7.holds Tryz.pinned (.plain (OpenSpec.ofChange fnExactDataOKSpec)) fnExactDataOKCard

/-- THE SECOND FORM's CARD OF 'laws.FnExactTableText'. -/
def fnExactTableTextUptoCard : Claim7 := { stood := { row := fnExactTableTextUptoRow, standIns := [], harness := (true, "3c20b0f05cc1b79d56d3359769c07d148d10b3b82c8c5c332b80819ec71e4ded"), looks := false }, kinds := [], alts := [], laidByText := true, laidKinds := [.data, .data, .data, .data, .pinned], laidTests := true, laidLooks := .later }
def FnExactTableTextUptoCardSaid : Prop := Claim7.holds Tryz.pinned (.plain (OpenSpec.upto fnExactTableTextSpec)) fnExactTableTextUptoCard

/-- THE SECOND FORM's CARD OF 'laws.FnExactDataOK'. -/
def fnExactDataOKUptoCard : Claim7 := { stood := { row := fnExactDataOKUptoRow, standIns := [], harness := (true, "3c20b0f05cc1b79d56d3359769c07d148d10b3b82c8c5c332b80819ec71e4ded"), looks := false }, kinds := [], alts := [], laidByText := true, laidKinds := [.data, .pinned], laidTests := true, laidLooks := .later }
def FnExactDataOKUptoCardSaid : Prop := Claim7.holds Tryz.pinned (.plain (OpenSpec.upto fnExactDataOKSpec)) fnExactDataOKUptoCard
end Rows
end Go.Proofs.YtjknmljdnolilaaGreatDoor
end
