/- An aggregate does not hang on the order of its values; counts of parts sum up. -/
import Derived.Test.YtfbclbbhomhfaaaYFnAggs9
namespace Go.Proofs.Ytfbclbbhomhfaaa.Pure
open Go.RowKit Go.Proofs.Ytfbclbbhomhfaaa.X Go.Proofs.YtfbclbbhomhfaaaW.PrintWords Go.Proofs.YtfbclbbhomhfaaaW.PrintLast
set_option linter.unusedVariables false
set_option linter.unusedSimpArgs false
abbrev em : ByteArray := (⟨#[]⟩ : ByteArray)
abbrev V0 := S24
abbrev zv : V0 := ⟨0, 0, (⟨#[]⟩ : ByteArray)⟩
def gcl (x : V0) : Prop := x.f2 = em ∧ ((x.f0 = 0 ∧ x.f1 = 0) ∨ (x.f0 = 2 ∧ -1000000 ≤ x.f1 ∧ x.f1 ≤ 1000000))
theorem gcl_ok {x : V0} (h : gcl x) : okv x = true ∧ two x = true ∧ (-9223372036854775808 ≤ x.f1 ∧ x.f1 ≤ 9223372036854775807) := by
  obtain ⟨a, b, t⟩ := x
  obtain ⟨h0, h⟩ := h
  dsimp only at h0 h
  subst h0
  have hz : em.size = 0 := rfl
  rcases h with ⟨rfl, rfl⟩ | ⟨rfl, h1, h2⟩
  · exact ⟨by simp [okv, vok, hz], by simp [two], by dsimp only; omega⟩
  · exact ⟨by simp [okv, vok, hz], by simp [two], by dsimp only; omega⟩
def four (s : List UInt8) : Prop := s = [99, 111, 117, 110, 116] ∨ s = [115, 117, 109] ∨ s = [109, 105, 110] ∨ s = [109, 97, 120]
theorem agg_val (s : ByteArray) (V : List V0) (hV : V.length ≤ 1000) (hR : ∀ x ∈ V, -9223372036854775808 ≤ x.f1 ∧ x.f1 ≤ 9223372036854775807) (ha : V.all okv = true) (ht : V.all two = true) (hk : four s.toList) (k : Nat) :
    spec_AggValue.f (k + V.length + V.length + V.length + 20) s V = some (aggS s.toList V 0 zv) := by
  have hs : s.size ≤ 5 := by rw [← length_toList]; rcases hk with h | h | h | h <;> rw [h] <;> decide
  unfold spec_AggValue.f
  rw [if_neg (show ¬ (s.size : Int) > 65536 by omega), if_neg (show ¬ (V.length : Int) > 4096 by omega)]
  rw [show (if s.toList = [99, 111, 117, 110, 116] then spec_AggValue.j0 (k + V.length + V.length + V.length + 20) s V false
      else if s.toList = [115, 117, 109] then spec_AggValue.j0 (k + V.length + V.length + V.length + 20) s V false
      else if s.toList = [109, 105, 110] then spec_AggValue.j0 (k + V.length + V.length + V.length + 20) s V false
      else spec_AggValue.j0 (k + V.length + V.length + V.length + 20) s V (s.toList != [109, 97, 120])) = spec_AggValue.j0 (k + V.length + V.length + V.length + 20) s V false from by
    rcases hk with h | h | h | h <;> rw [h] <;> rfl]
  rw [spec_AggValue.j0, if_neg (by decide)]
  have e0 := spec_l0 s V (by omega) V.length (k + V.length + V.length + 18) 0 (by omega) (by omega)
  rw [show k + V.length + V.length + 18 + V.length + 1 = k + V.length + V.length + V.length + 19 by omega, List.drop_zero] at e0
  rw [show ((0 : Nat) : Int) = 0 from rfl] at e0
  have e1 := spec_l1 s V (by omega) V.length (k + V.length + 17) 0 (by omega) (by omega)
  rw [show k + V.length + 17 + V.length + 1 = k + V.length + V.length + 18 by omega, List.drop_zero, show ((0 : Nat) : Int) = 0 from rfl] at e1
  have e2 : spec_l12Agg.f (k + V.length + 17) s V = some (aggS s.toList V 0 zv) := by
    have := spec_agg s V (by omega) hR V.length (k + 16) 0 0 zv (by omega) (by omega) (by omega) (by omega) ⟨by show (-9223372036854775808 : Int) ≤ 0; decide, by show (0 : Int) ≤ 9223372036854775807; decide⟩
    rw [show k + 16 + V.length + 1 = k + V.length + 17 by omega, List.drop_zero] at this
    exact this
  rw [e0, if_pos ha, e1, if_neg (by rw [ht]; simp), e2]
theorem agg_ev (s : ByteArray) (V : List V0) (hV : V.length ≤ 1000) (hg : ∀ x ∈ V, gcl x) (hk : four s.toList) :
    Ev (fun k => spec_AggValue.f k s V) (aggS s.toList V 0 zv) ∧ Ev (fun k => impl_AggValue.f k s V) (aggS s.toList V 0 zv) := by
  have hR : ∀ x ∈ V, -9223372036854775808 ≤ x.f1 ∧ x.f1 ≤ 9223372036854775807 := fun x h => (gcl_ok (hg x h)).2.2
  have e := agg_val s V hV hR (List.all_eq_true.2 fun x h => (gcl_ok (hg x h)).1) (List.all_eq_true.2 fun x h => (gcl_ok (hg x h)).2.1) hk 0
  obtain ⟨r, e1, e2⟩ := agg_same s V (by omega) hR 0
  rw [e] at e1
  cases e1
  exact ⟨Ev.of (fun k => spec_AggValue.mono s V k) e, Ev.of (fun k => impl_AggValue.mono s V k) e2⟩
theorem own_rev (V : List V0) : own V.reverse = (own V).reverse := by unfold own; rw [List.filter_reverse]
theorem own_app (A B : List V0) : own (A ++ B) = own A ++ own B := by unfold own; rw [List.filter_append]
def sm : List V0 → Int
  | [] => 0
  | x :: xs => x.f1 + sm xs
theorem sm_app : ∀ A B : List V0, sm (A ++ B) = sm A + sm B
  | [], B => by simp [sm]
  | x :: xs, B => by rw [List.cons_append, sm, sm, sm_app xs B]; omega
theorem sm_rev : ∀ A : List V0, sm A.reverse = sm A
  | [] => rfl
  | x :: xs => by rw [List.reverse_cons, sm_app, sm_rev xs, sm, sm, sm]; omega
theorem sumO_val : ∀ (L : List V0) (a : Int), (∀ x ∈ L, -1000000 ≤ x.f1 ∧ x.f1 ≤ 1000000) → -4000000000000000000 ≤ a - 1000000 * L.length → a + 1000000 * L.length ≤ 4000000000000000000 → sumO a L = (2, a + sm L, em, 0)
  | [], a, _, _, _ => by rw [sumO, sm, Int.add_zero]
  | x :: xs, a, h, h1, h2 => by
    have hx := h x (List.mem_cons_self ..)
    rw [List.length_cons] at h1 h2
    rw [sumO, if_pos (by omega), sumO_val xs (a + x.f1) (fun y hy => h y (List.mem_cons_of_mem _ hy)) (by omega) (by omega), sm, Int.add_assoc]
def g2 (x : V0) : Prop := x.f0 = 2 ∧ x.f2 = em ∧ -1000000 ≤ x.f1 ∧ x.f1 ≤ 1000000
theorem own_g2 {V : List V0} (hg : ∀ x ∈ V, gcl x) : ∀ x ∈ own V, g2 x := fun x hx => by
  have h := List.mem_filter.1 hx
  have g := hg x h.1
  have h0 := of_decide_eq_true h.2
  rcases g.2 with g1 | g1
  · exact absurd g1.1 h0
  · exact ⟨g1.1, g.1, g1.2⟩
theorem cmpStr_em : cmpStr em em = 0 := by
  unfold cmpStr
  rw [show em.toList = [] from toList_mk []]
  rfl
theorem cmp2 (x y : V0) (hx : g2 x) (hy : g2 y) : cmpVal (x.f0, x.f1, x.f2) (y.f0, y.f1, y.f2) = cmpInt x.f1 y.f1 := by
  unfold cmpVal
  rw [hx.1, hy.1, hx.2.1, hy.2.1]
  dsimp only
  rw [cmpStr_em, show cmpInt 2 2 = 0 from rfl, if_neg (by decide)]
  by_cases h : cmpInt x.f1 y.f1 = 0
  · rw [if_neg (by simpa using h), h]
  · rw [if_pos h]
theorem less_is (x y : V0) (hx : g2 x) (hy : g2 y) : lessO x y = decide (x.f1 < y.f1) := by
  unfold lessO
  rw [cmp2 x y hx hy, decide_eq_decide]
  unfold cmpInt
  split
  · omega
  · split <;> omega
theorem more_is (x y : V0) (hx : g2 x) (hy : g2 y) : moreO x y = decide (y.f1 < x.f1) := by
  unfold moreO
  rw [cmp2 x y hx hy, decide_eq_decide]
  unfold cmpInt
  split
  · omega
  · split <;> omega
theorem pick_ (sg : Int) (O : V0 → V0 → Bool) (hO : ∀ x y : V0, g2 x → g2 y → O x y = decide (sg * x.f1 < sg * y.f1)) : ∀ (xs : List V0) (m : V0), (∀ y ∈ m :: xs, g2 y) → pickO O m xs ∈ m :: xs ∧ ∀ y ∈ m :: xs, sg * (pickO O m xs).f1 ≤ sg * y.f1
  | [], m, h => ⟨List.mem_cons_self .., fun y hy => by rw [List.mem_singleton.1 hy]; exact Int.le_refl _⟩
  | x :: xs, m, h => by
    have hm := h m (List.mem_cons_self ..)
    have hx := h x (List.mem_cons_of_mem _ (List.mem_cons_self ..))
    rw [pickO, hO x m hx hm]
    by_cases c : sg * x.f1 < sg * m.f1
    · rw [decide_eq_true c, if_pos rfl]
      obtain ⟨a, b⟩ := pick_ sg O hO xs x (fun y hy => h y (List.mem_cons_of_mem _ hy))
      refine ⟨List.mem_cons_of_mem _ a, fun y hy => ?_⟩
      have bx := b x (List.mem_cons_self ..)
      rcases List.mem_cons.1 hy with rfl | hy
      · omega
      · exact b y hy
    · rw [decide_eq_false c, if_neg (by decide)]
      obtain ⟨a, b⟩ := pick_ sg O hO xs m (fun y hy => by
        rcases List.mem_cons.1 hy with rfl | hy
        · exact hm
        · exact h y (List.mem_cons_of_mem _ (List.mem_cons_of_mem _ hy)))
      have bm := b m (List.mem_cons_self ..)
      refine ⟨?_, fun y hy => ?_⟩
      · rcases List.mem_cons.1 a with a | a
        · rw [a]; exact List.mem_cons_self ..
        · exact List.mem_cons_of_mem _ (List.mem_cons_of_mem _ a)
      · rcases List.mem_cons.1 hy with rfl | hy
        · exact bm
        · rcases List.mem_cons.1 hy with rfl | hy
          · omega
          · exact b y (List.mem_cons_of_mem _ hy)
theorem pick_same (sg : Int) (hs : sg = 1 ∨ sg = -1) (O : V0 → V0 → Bool) (hO : ∀ x y : V0, g2 x → g2 y → O x y = decide (sg * x.f1 < sg * y.f1)) (x : V0) (xs : List V0) (y : V0) (ys : List V0) (hm : ∀ z, z ∈ x :: xs ↔ z ∈ y :: ys) (hg : ∀ z ∈ x :: xs, g2 z) : pickO O x xs = pickO O y ys := by
  obtain ⟨a, b⟩ := pick_ sg O hO xs x hg
  obtain ⟨a2, b2⟩ := pick_ sg O hO ys y (fun z hz => hg z ((hm z).2 hz))
  have c1 := b _ ((hm _).2 a2)
  have c2 := b2 _ ((hm _).1 a)
  have g1 := hg _ a
  have g3 := hg _ ((hm _).2 a2)
  generalize pickO O x xs = p at *
  generalize pickO O y ys = q at *
  obtain ⟨p0, p1, p2⟩ := p
  obtain ⟨q0, q1, q2⟩ := q
  obtain ⟨u1, u2, _⟩ := g1
  obtain ⟨v1, v2, _⟩ := g3
  dsimp only at *
  subst u1 u2 v1 v2
  have : p1 = q1 := by rcases hs with rfl | rfl <;> omega
  rw [this]
theorem fold_rev (s : List UInt8) (hk : four s) (V : List V0) (hV : V.length ≤ 1000) (hg : ∀ x ∈ V, gcl x) : aggS s V.reverse 0 zv = aggS s V 0 zv ∧ (aggS s V 0 zv).2.2.2 = 0 := by
  have hgr : ∀ x ∈ V.reverse, gcl x := fun x h => hg x (List.mem_reverse.1 h)
  have ho := own_g2 hg
  have hl : (own V).length ≤ 1000 := Nat.le_trans (List.length_filter_le _ _) hV
  have all_ : ∀ W : List V0, (∀ x ∈ W, gcl x) → (∀ x ∈ W, okv x = true) ∧ W.all two = true ∧ ∀ x ∈ W, -9223372036854775808 ≤ x.f1 ∧ x.f1 ≤ 9223372036854775807 := fun W h => ⟨fun x hx => (gcl_ok (h x hx)).1, List.all_eq_true.2 fun x hx => (gcl_ok (h x hx)).2.1, fun x hx => (gcl_ok (h x hx)).2.2⟩
  rcases hk with rfl | rfl | rfl | rfl
  · rw [agg_count, agg_count, own_rev, List.length_reverse]; exact ⟨rfl, rfl⟩
  · rw [agg_sum V.reverse 0 (all_ _ hgr).1 (all_ _ hgr).2.1 (all_ _ hgr).2.2, agg_sum V 0 (all_ _ hg).1 (all_ _ hg).2.1 (all_ _ hg).2.2, own_rev]
    by_cases h0 : own V = []
    · rw [if_pos h0, if_pos (by rw [h0]; rfl)]; exact ⟨rfl, rfl⟩
    · rw [if_neg h0, if_neg (by simpa using h0), sumO_val (own V) 0 (fun x hx => (ho x hx).2.2) (by omega) (by omega), sumO_val (own V).reverse 0 (fun x hx => (ho x (List.mem_reverse.1 hx)).2.2) (by rw [List.length_reverse]; omega) (by rw [List.length_reverse]; omega), sm_rev]
      exact ⟨rfl, rfl⟩
  · rw [agg_min, agg_min, if_pos rfl, if_pos rfl, own_rev]
    cases h : own V with
    | nil => exact ⟨rfl, rfl⟩
    | cons x xs =>
      rw [h] at ho
      cases h2 : (x :: xs).reverse with
      | nil => simp at h2
      | cons y ys =>
        dsimp only
        rw [pick_same 1 (.inl rfl) lessO (fun a b ha hb => by rw [less_is a b ha hb, Int.one_mul, Int.one_mul]) x xs y ys (fun z => by rw [← h2, List.mem_reverse]) ho]
        exact ⟨rfl, rfl⟩
  · rw [agg_max, agg_max, if_pos rfl, if_pos rfl, own_rev]
    cases h : own V with
    | nil => exact ⟨rfl, rfl⟩
    | cons x xs =>
      rw [h] at ho
      cases h2 : (x :: xs).reverse with
      | nil => simp at h2
      | cons y ys =>
        dsimp only
        rw [pick_same (-1) (.inr rfl) moreO (fun a b ha hb => by rw [more_is a b ha hb, decide_eq_decide]; omega) x xs y ys (fun z => by rw [← h2, List.mem_reverse]) ho]
        exact ⟨rfl, rfl⟩
/-! rows -/
def gv (v : V0) : Prop := vok v.f0 v.f1 v.f2 = true
def good (r : List V0) : Prop := 1 ≤ r.length ∧ ∀ v ∈ r, gv v
theorem row_l1 (c : List Int) (n : Nat) (hn : 1 ≤ n ∧ n ≤ 3) (x3 : List (List V0)) (hx : x3.length ≤ 1000 ∧ ∀ r ∈ x3, good r) (x5 : Int) (m : Nat) (M : Int) (hM : M ≤ 1000000)
    (P : ∀ (y3 : List (List V0)) (a s B : Int), Src c a s B → B ≤ M → (y3.length = x3.length + 1 ∧ ∀ r ∈ y3, good r) → ∃ R : List (List V0) × Int × Int, Ev (fun k => spec_l00Src_rows.l0 k y3 (n : Int) (wrap64 (x5 - 1)) c a s) R ∧ (∀ r ∈ R.1, good r) ∧ R.1.length ≤ m) :
    ∀ d j (row : List V0) (a s B : Int), j + d = n → row.length = j → (∀ v ∈ row, gv v) → Src c a s B → B + 15 * d ≤ M → ∃ R : List (List V0) × Int × Int, Ev (fun k => spec_l00Src_rows.l1 k x3 (n : Int) x5 row (j : Int) c a s) R ∧ (∀ r ∈ R.1, good r) ∧ R.1.length ≤ m
  | 0, j, row, a, s, B, h, hr, hv, hs, hB => by
    obtain ⟨R, e, g⟩ := P (x3 ++ [row]) a s B hs (by omega) ⟨by simp, fun r hm => by
      rcases List.mem_append.1 hm with hm | hm
      · exact hx.2 r hm
      · rw [List.mem_singleton.1 hm]; exact ⟨by omega, hv⟩⟩
    refine ⟨R, Ev.step (fun k => ?_) e, g⟩
    rw [spec_l00Src_rows.l1, if_neg (by omega), if_pos (by omega)]
  | d + 1, j, row, a, s, B, h, hr, hv, hs, hB => by
    obtain ⟨x, y, t, a', s', e, vk, _, _, _, _, hs'⟩ := src_value hs (by omega) 0
    have ev := Ev.of (g := fun k => spec_l00Src_value.f k c a s) (fun k => spec_l00Src_value.mono c a s k) e
    obtain ⟨R, e2, g⟩ := row_l1 c n hn x3 hx x5 m M hM P d (j + 1) (row ++ [⟨x, y, t⟩]) a' s' (B + 15) (by omega) (by simp [hr]) (fun v hm => by
      rcases List.mem_append.1 hm with hm | hm
      · exact hv v hm
      · rw [List.mem_singleton.1 hm]; exact vk) hs' (by omega)
    refine ⟨R, ?_, g⟩
    refine Ev.step (f := fun k => (spec_l00Src_value.f k c a s).bind fun q => if row.length < 4398046511104 then spec_l00Src_rows.l1 k x3 (n : Int) x5 (row ++ [⟨q.1, q.2.1, q.2.2.1⟩]) ((j + 1 : Nat) : Int) c q.2.2.2.1 q.2.2.2.2 else none) (fun k => ?_)
      (Ev.bind (f := fun k q => if row.length < 4398046511104 then spec_l00Src_rows.l1 k x3 (n : Int) x5 (row ++ [⟨q.1, q.2.1, q.2.2.1⟩]) ((j + 1 : Nat) : Int) c q.2.2.2.1 q.2.2.2.2 else none) ev (Ev.congr (fun k => if_pos (by omega)) e2))
    rw [spec_l00Src_rows.l1, if_pos (by omega), show wrap64 ((j : Int) + 1) = ((j + 1 : Nat) : Int) by unfold wrap64; omega]
theorem rows_l0 (c : List Int) (n : Nat) (hn : 1 ≤ n ∧ n ≤ 3) : ∀ (m : Nat) (x3 : List (List V0)) (a s B : Int), x3.length + m ≤ 100 → (∀ r ∈ x3, good r) → Src c a s B → B + 50 * m ≤ 1000000 →
    ∃ R : List (List V0) × Int × Int, Ev (fun k => spec_l00Src_rows.l0 k x3 (n : Int) (m : Int) c a s) R ∧ (∀ r ∈ R.1, good r) ∧ R.1.length ≤ x3.length + m
  | 0, x3, a, s, B, hl, hg, hs, hB => ⟨(x3, a, s), Ev.step (f := fun _ => some (x3, a, s)) (fun k => by rw [spec_l00Src_rows.l0, if_neg (by omega)]) (Ev.now _), hg, by simp⟩
  | m + 1, x3, a, s, B, hl, hg, hs, hB => by
    obtain ⟨R, e, g1, g2⟩ := row_l1 c n hn x3 ⟨by omega, hg⟩ ((m + 1 : Nat) : Int) (x3.length + (m + 1)) (B + 50) (by omega) (fun y3 a s B2 hs2 hB2 hy => by
      obtain ⟨R, e, g1, g2⟩ := rows_l0 c n hn m y3 a s (B + 50) (by omega) hy.2 (hs2.up hB2) (by omega)
      refine ⟨R, ?_, g1, by omega⟩
      rw [show wrap64 (((m + 1 : Nat) : Int) - 1) = (m : Int) by unfold wrap64; omega]
      exact e) n 0 [] a s B (by omega) rfl (fun v hv => by cases hv) hs (by omega)
    refine ⟨R, Ev.step (fun k => ?_) e, g1, g2⟩
    rw [spec_l00Src_rows.l0, if_pos (by omega)]
    rfl
theorem rows_of {c : List Int} (h : ∀ x ∈ c, (Lit.int .u8 x).wf = true) : ∃ R : List (List V0), Ev (fun k => spec_RowsOf.f k c) R ∧ (∀ r ∈ R, good r) ∧ R.length ≤ 100 := by
  have h0 := src_new h
  obtain ⟨r, a, s, e, r0, r1, hs⟩ := src_next h0 (by omega) 3
  obtain ⟨q, a2, s2, e2, q0, q1, hs2⟩ := src_next hs (by omega) 8
  obtain ⟨n, hn⟩ : ∃ n : Nat, (n : Int) = 1 + r := ⟨(1 + r).toNat, by omega⟩
  obtain ⟨m, hm⟩ : ∃ m : Nat, (m : Int) = q := ⟨q.toNat, by omega⟩
  obtain ⟨R, ev, g1, g2⟩ := rows_l0 c n (by omega) m [] a2 s2 (0 + 3 + 3) (by simp; omega) (fun r hr => by cases hr) hs2 (by omega)
  have ev2 : Ev (fun k => spec_l00Src_rows.f k c 0 ((c.length : Int) % 1000)) R := by
    refine Ev.congr (fun k => ?_) ev
    unfold spec_l00Src_rows.f
    rw [e, Option.bind_some, e2, Option.bind_some, wrap_in (1 + r) (by omega), hn, hm]
  have e3 : ∀ k, spec_RowsOf.f k c = (spec_l00Src_rows.f k c 0 ((c.length : Int) % 1000)).bind fun b => some b.1 := fun k => by
    unfold spec_RowsOf.f spec_l00Source.f
    rw [Option.bind_some]
  obtain ⟨K, w⟩ := ev2
  have w2 : ∀ k, K ≤ k → spec_RowsOf.f k c = some R.1 := fun k hk => by
    rw [e3 k, show spec_l00Src_rows.f k c 0 ((c.length : Int) % 1000) = some R from w k hk, Option.bind_some]
  have g3 : R.1.length ≤ 100 := by
    rw [List.length_nil] at g2
    omega
  exact ⟨R.1, ⟨K, w2⟩, g1, g3⟩
/-! the law -/
theorem vok_two {b : Int} {t : ByteArray} (h : vok 2 b t = true) : t = em := by
  unfold vok at h
  simp at h
  rw [h]; rfl
theorem list_l0 (c : List Int) (rows : List (List V0)) (hr : rows.length ≤ 100) (hg : ∀ r ∈ rows, good r) : ∀ d i (L : List V0), i + d = rows.length → L.length ≤ i → (∀ x ∈ L, gcl x) →
    ∃ L' : List V0, (∀ x ∈ L', gcl x) ∧ L'.length ≤ rows.length ∧ ∀ k, laws_FnAggs.l0 (k + d + 1) c rows L L.reverse (i : Int) = laws_FnAggs.l0 (k + 1) c rows L' L'.reverse (rows.length : Int)
  | 0, i, L, h, hl, hL => ⟨L, hL, by omega, fun k => by rw [show k + 0 + 1 = k + 1 from rfl, show i = rows.length by omega]⟩
  | d + 1, i, L, h, hl, hL => by
    have hlt : i < rows.length := by omega
    have hrd : rd_L4 rows (i : Int) = rows[i] := by simp [rd_L4, hlt]
    have hgr := hg _ (List.getElem_mem hlt)
    have hv : gv (rd_T24 rows[i] 0) := by
      have h1 : 0 < rows[i].length := hgr.1
      have : rd_T24 rows[i] 0 = rows[i][0] := by simp [rd_T24, h1]
      rw [this]; exact hgr.2 _ (List.getElem_mem h1)
    generalize hx : rd_T24 rows[i] 0 = v at hv
    obtain ⟨a, b, t⟩ := v
    have hw : ∃ w : V0, gcl w ∧ ∀ k, laws_FnAggs.l0 (k + 1) c rows L L.reverse (i : Int) = laws_FnAggs.l0 k c rows (L ++ [w]) (L ++ [w]).reverse ((i + 1 : Nat) : Int) := by
      have c1 : (i : Int) < (rows.length : Int) := by omega
      have c2 : (0 : Int) ≤ (i : Int) := by omega
      have c3 : (0 : Int) < (rows[i].length : Int) := by have := hgr.1; omega
      have c4 : L.length < 4398046511104 := by omega
      have c5 : ∀ w : V0, [w].length + L.reverse.length < 4398046511104 := fun w => by rw [List.length_reverse, List.length_singleton]; omega
      have wi : wrap64 ((i : Int) + 1) = ((i + 1 : Nat) : Int) := by unfold wrap64; omega
      have rv : ∀ w : V0, (L ++ [w]).reverse = [w] ++ L.reverse := fun w => by simp
      have gz : gcl zv := ⟨rfl, .inl ⟨rfl, rfl⟩⟩
      by_cases h2 : a = 2
      · subst h2
        have ht : t = em := vok_two hv
        by_cases p1 : b > 1000000
        · refine ⟨zv, gz, fun k => ?_⟩
          rw [laws_FnAggs.l0, if_pos c1, if_pos c2, hrd, if_pos c3, hx, if_pos rfl, if_pos p1, if_pos c4, Option.bind_some, if_pos (c5 _), rv, wi]
        by_cases p2 : b < -1000000
        · refine ⟨zv, gz, fun k => ?_⟩
          rw [laws_FnAggs.l0, if_pos c1, if_pos c2, hrd, if_pos c3, hx, if_pos rfl, if_neg p1, if_pos p2, if_pos c4, Option.bind_some, if_pos (c5 _), rv, wi]
        · refine ⟨⟨2, b, t⟩, ⟨ht, .inr ⟨rfl, by dsimp only; omega⟩⟩, fun k => ?_⟩
          rw [laws_FnAggs.l0, if_pos c1, if_pos c2, hrd, if_pos c3, hx, if_pos rfl, if_neg p1, if_neg p2, if_pos c4, Option.bind_some, if_pos (c5 _), rv, wi]
      by_cases h0 : a = 0
      · subst h0
        obtain ⟨hb, ht⟩ := vok_null hv
        dsimp only at hb ht
        subst hb
        refine ⟨⟨0, 0, t⟩, ⟨ht, .inl ⟨rfl, rfl⟩⟩, fun k => ?_⟩
        rw [laws_FnAggs.l0, if_pos c1, if_pos c2, hrd, if_pos c3, hx, if_neg (show ¬ (0 : Int) = 2 by decide), if_pos rfl, if_neg (show ¬ (0 : Int) > 1000000 by decide), if_neg (show ¬ (0 : Int) < -1000000 by decide), if_pos c4, Option.bind_some, if_pos (c5 _), rv, wi]
      · refine ⟨zv, gz, fun k => ?_⟩
        rw [laws_FnAggs.l0, if_pos c1, if_pos c2, hrd, if_pos c3, hx, if_neg h2, if_neg h0, if_pos c4, Option.bind_some, if_pos (c5 _), rv, wi]
    obtain ⟨w, gw, hw⟩ := hw
    obtain ⟨L', g, l, e⟩ := list_l0 c rows hr hg d (i + 1) (L ++ [w]) (by omega) (by rw [List.length_append, List.length_singleton]; omega) (fun x hm => by
      rcases List.mem_append.1 hm with hm | hm
      · exact hL x hm
      · rw [List.mem_singleton.1 hm]; exact gw)
    refine ⟨L', g, l, fun k => ?_⟩
    rw [show k + (d + 1) + 1 = (k + d + 1) + 1 by omega, hw]
    exact e k
abbrev names4 : List ByteArray := [(⟨#[99, 111, 117, 110, 116]⟩ : ByteArray), (⟨#[115, 117, 109]⟩ : ByteArray), (⟨#[109, 105, 110]⟩ : ByteArray), (⟨#[109, 97, 120]⟩ : ByteArray)]
theorem names_step (c : List Int) (L T : List V0) (k i : Nat) (hi : i < 4) (s : ByteArray) (hs : rdOf ByteArray.empty names4 (i : Int) = s) (r : Int × Int × ByteArray × Int) (e1 : impl_AggValue.f k s L = some r) (e2 : impl_AggValue.f k s T = some r) (e3 : spec_AggValue.f k s L = some r) (h0 : r.2.2.2 = 0) :
    laws_FnAggs.l1 (k + 1) c L T names4 (i : Int) = laws_FnAggs.l1 k c L T names4 ((i + 1 : Nat) : Int) := by
  rw [laws_FnAggs.l1, if_pos (show (i : Int) < (names4.length : Int) by show (i : Int) < 4; omega), if_pos (by omega), hs, e1, Option.bind_some, e2, Option.bind_some, e3, Option.bind_some, if_pos h0, if_pos h0, if_neg (by simp), if_neg (by simp), show wrap64 ((i : Int) + 1) = ((i + 1 : Nat) : Int) by unfold wrap64; omega]
theorem at_gen {l : List Int} (h : ∀ x ∈ l, (Lit.int .u8 x).wf = true) (m : Int) (hm : 1 ≤ m) (hm2 : m ≤ 1000000) : ∃ r, laws_at.f l 0 m = some r ∧ 0 ≤ r ∧ r < m := by
  by_cases h1 : m ≤ 1
  · refine ⟨0, ?_, by omega, by omega⟩
    unfold laws_at.f
    rw [if_pos h1]
  · exact at_some h 0 m (by omega) (by omega) (by omega) hm2
theorem FnAggs : laws_FnAggs.Need := by
  intro c m hc hm
  obtain ⟨rows, ⟨K1, ev⟩, hg, hl⟩ := rows_of hc.2
  obtain ⟨L, gL, lL, eL⟩ := list_l0 m rows hl hg rows.length 0 [] (by omega) (by simp) (fun x hx => by cases hx)
  have gT : ∀ x ∈ L.reverse, gcl x := fun x h => gL x (List.mem_reverse.1 h)
  have lT : L.reverse.length ≤ 1000 := by rw [List.length_reverse]; omega
  have L4 : ∀ l : List UInt8, (⟨l.toArray⟩ : ByteArray).toList = l := fun l => by rw [toList_eq]
  have H : ∀ s : ByteArray, four s.toList → ∃ K, ∀ k, K ≤ k → ∃ r : Int × Int × ByteArray × Int, impl_AggValue.f k s L = some r ∧ impl_AggValue.f k s L.reverse = some r ∧ spec_AggValue.f k s L = some r ∧ r.2.2.2 = 0 := fun s hs => by
    obtain ⟨⟨A, wA⟩, ⟨B, wB⟩⟩ := agg_ev s L (by omega) gL hs
    obtain ⟨_, ⟨D, wD⟩⟩ := agg_ev s L.reverse lT gT hs
    obtain ⟨f1, f2⟩ := fold_rev s.toList hs L (by omega) gL
    rw [f1] at wD
    exact ⟨A + B + D, fun k hk => ⟨_, wB k (by omega), wD k (by omega), wA k (by omega), f2⟩⟩
  obtain ⟨A0, H0⟩ := H (⟨#[99, 111, 117, 110, 116]⟩ : ByteArray) (.inl (L4 [99, 111, 117, 110, 116]))
  obtain ⟨A1, H1⟩ := H (⟨#[115, 117, 109]⟩ : ByteArray) (.inr (.inl (L4 [115, 117, 109])))
  obtain ⟨A2, H2⟩ := H (⟨#[109, 105, 110]⟩ : ByteArray) (.inr (.inr (.inl (L4 [109, 105, 110]))))
  obtain ⟨A3, H3⟩ := H (⟨#[109, 97, 120]⟩ : ByteArray) (.inr (.inr (.inr (L4 [109, 97, 120]))))
  have Hc : ∀ V : List V0, V.length ≤ 1000 → (∀ x ∈ V, gcl x) → ∃ K, ∀ k, K ≤ k → impl_AggValue.f k (⟨#[99, 111, 117, 110, 116]⟩ : ByteArray) V = some (2, ((own V).length : Int), em, 0) := fun V hV gV => by
    obtain ⟨_, ⟨B, wB⟩⟩ := agg_ev (⟨#[99, 111, 117, 110, 116]⟩ : ByteArray) V hV gV (.inl (L4 [99, 111, 117, 110, 116]))
    refine ⟨B, fun k hk => ?_⟩
    have := wB k hk
    rw [L4 [99, 111, 117, 110, 116], agg_count, Int.zero_add] at this
    exact this
  obtain ⟨t, et, t0, t1⟩ := at_gen hm.2 ((L.length : Int) + 1) (by omega) (by omega)
  obtain ⟨B0, W0⟩ := Hc (L.take t.toNat) (by rw [List.length_take]; omega) (fun x h => gL x (List.mem_of_mem_take h))
  obtain ⟨B1, W1⟩ := Hc (L.drop t.toNat) (by rw [List.length_drop]; omega) (fun x h => gL x (List.mem_of_mem_drop h))
  obtain ⟨B2, W2⟩ := Hc L (by omega) gL
  obtain ⟨K, hK⟩ : ∃ K : Nat, K1 + A0 + A1 + A2 + A3 + B0 + B1 + B2 ≤ K := ⟨_, Nat.le_refl _⟩
  refine ⟨K + 6 + rows.length + 1, ?_⟩
  unfold laws_FnAggs.f
  have big : laws_FnAggs.j0 (K + 6 + rows.length + 1) c m true = some true := by rw [laws_FnAggs.j0, if_pos rfl]
  have sml : laws_FnAggs.j0 (K + 6 + rows.length + 1) c m false = some true := by
    have e1 := ev (K + 6 + rows.length) (by omega)
    dsimp only at e1
    have e2 := eL (K + 5)
    rw [List.reverse_nil] at e2
    rw [laws_FnAggs.j0, if_neg (by decide), e1, Option.bind_some, show K + 6 + rows.length = K + 5 + rows.length + 1 by omega, show (0 : Int) = ((0 : Nat) : Int) from rfl, e2, laws_FnAggs.l0, if_neg (by omega)]
    obtain ⟨r0, a0, b0, c0, d0⟩ := H0 (K + 4) (by omega)
    obtain ⟨r1, a1, b1, c1, d1⟩ := H1 (K + 3) (by omega)
    obtain ⟨r2, a2, b2, c2, d2⟩ := H2 (K + 2) (by omega)
    obtain ⟨r3, a3, b3, c3, d3⟩ := H3 (K + 1) (by omega)
    have s0 := names_step m L L.reverse (K + 4) 0 (by omega) _ rfl r0 a0 b0 c0 d0
    have s1 := names_step m L L.reverse (K + 3) 1 (by omega) _ rfl r1 a1 b1 c1 d1
    have s2 := names_step m L L.reverse (K + 2) 2 (by omega) _ rfl r2 a2 b2 c2 d2
    have s3 := names_step m L L.reverse (K + 1) 3 (by omega) _ rfl r3 a3 b3 c3 d3
    refine s0.trans (s1.trans (s2.trans (s3.trans ?_)))
    rw [laws_FnAggs.l1, if_neg (by decide), wrap_in ((L.length : Int) + 1) (by omega), et, Option.bind_some, if_pos t0, if_pos (by omega), W0 K (by omega), Option.bind_some, W1 K (by omega), Option.bind_some, W2 K (by omega), Option.bind_some, if_pos rfl, if_pos rfl, if_pos rfl]
    dsimp only
    have hsum : (own (L.take t.toNat)).length + (own (L.drop t.toNat)).length = (own L).length := by
      rw [← List.length_append, ← own_app, List.take_append_drop]
    have hol : (own L).length ≤ L.length := List.length_filter_le _ _
    have e : ((own (L.take t.toNat)).length : Int) + ((own (L.drop t.toNat)).length : Int) = ((own L).length : Int) := by omega
    rw [e, wrap_in ((own L).length : Int) (by omega), beq_self_eq_true]
  by_cases c0 : (c.length : Int) > 1048576
  · rw [if_pos c0]; exact big
  · rw [if_neg c0]
    cases decide ((m.length : Int) > 1048576)
    · exact sml
    · exact big
end Go.Proofs.Ytfbclbbhomhfaaa.Pure
