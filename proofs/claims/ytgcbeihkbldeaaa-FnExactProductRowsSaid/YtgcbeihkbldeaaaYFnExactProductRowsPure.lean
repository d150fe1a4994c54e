/- Each row before each other one: the program and the reference answer the same. -/
import Derived.Test.YtgcbeihkbldeaaaYFnExactProductRows11
namespace Go.Proofs.Ytgcbeihkbldeaaa.Pure
open Go.RowKit Go.Proofs.Ytgcbeihkbldeaaa.X Go.Proofs.YtgcbeihkbldeaaaW.PrintWords Go.Proofs.YtgcbeihkbldeaaaW.PrintLast
set_option linter.unusedVariables false
set_option linter.unusedSimpArgs false
def rowsok (m : Int) (V : List (List S110)) : Bool := decide (V.length ≤ 400) && V.all fun r => decide ((r.length : Int) ≤ m) && r.all fun x => vok x.f0 x.f1 x.f2
theorem cell_is (a b : Int) (t : ByteArray) : impl_areRows_1_1.f a b t = some (!(vok a b t)) := by unfold impl_areRows_1_1.f; rw [impl_vok]; rfl
theorem impl_rows (V : List (List S110)) (m : Int) : impl_areRows.f V m = some (rowsok m V) := by
  have hp : ∀ r : List S110, impl_areRows.pr m r = !(decide ((r.length : Int) ≤ m) && r.all fun x => vok x.f0 x.f1 x.f2) := fun r => by
    unfold impl_areRows.pr
    have : impl_areRows.pv = fun x => !(vok x.f0 x.f1 x.f2) := by funext x; unfold impl_areRows.pv; rw [cell_is]; rfl
    rw [this, Bool.not_and, List.not_all_eq_any_not]
    by_cases c : (r.length : Int) ≤ m
    · rw [decide_eq_false (show ¬ (r.length : Int) > m by omega), decide_eq_true c]; rfl
    · rw [decide_eq_true (show (r.length : Int) > m by omega), decide_eq_false c]; rfl
  unfold impl_areRows.f rowsok
  rw [if_pos (by simp [cell_is]), show impl_areRows.pr m = _ from funext hp, List.all_eq_not_any_not]
  by_cases c : V.length ≤ 400
  · rw [if_pos (by omega), decide_eq_true c]; rfl
  · rw [if_neg (by omega), decide_eq_false c]; rfl
theorem spec_rows_l0 (V : List (List S110)) (h : SmR V) (m : Int) : ∀ d i, i + d = V.length →
    Ev (fun k => spec_l13Rows.l0 k V m (i : Int)) (decide (V.length ≤ 400) && (V.drop i).all fun r => decide ((r.length : Int) ≤ m) && r.all fun x => vok x.f0 x.f1 x.f2)
  | 0, i, hi => by
    rw [List.drop_of_length_le (by omega), List.all_nil, Bool.and_true]
    exact Ev.step (f := fun _ => some (decide (V.length ≤ 400))) (fun k => by rw [spec_l13Rows.l0, if_neg (by omega)]; congr 1; rw [decide_eq_decide]; omega) (Ev.now _)
  | d + 1, i, hi => by
    have hlt : i < V.length := by omega
    have hV := h.1
    have hr := h.2 _ (List.getElem_mem hlt)
    have ih := spec_rows_l0 V h m d (i + 1) (by omega)
    have wi := next64 i V.length hlt (by simp only [maxLen]; omega)
    rw [List.drop_eq_getElem_cons hlt, List.all_cons]
    by_cases c : (V[i].length : Int) > m
    · rw [decide_eq_false (show ¬ (V[i].length : Int) ≤ m by omega), Bool.false_and, Bool.false_and, Bool.and_false]
      exact Ev.step (f := fun _ => some false) (fun k => by rw [spec_l13Rows.l0, if_pos (by omega), if_pos (by omega), rdR_ V i hlt, if_pos c]) (Ev.now _)
    rw [decide_eq_true (show (V[i].length : Int) ≤ m by omega), Bool.true_and]
    have inner : ∀ e j, j + e = V[i].length → Ev (fun k => spec_l13Rows.l1 k V m (i : Int) (j : Int)) (decide (V.length ≤ 400) && (((V[i].drop j).all fun x => vok x.f0 x.f1 x.f2) && (V.drop (i + 1)).all fun r => decide ((r.length : Int) ≤ m) && r.all fun x => vok x.f0 x.f1 x.f2)) := by
      intro e
      induction e with
      | zero =>
        intro j hj
        rw [List.drop_of_length_le (by omega), List.all_nil, Bool.true_and]
        exact Ev.step (fun k => by rw [spec_l13Rows.l1, if_pos (by omega), if_pos (by omega), rdR_ V i hlt, if_neg (by omega), wi]) ih
      | succ e ihe =>
        intro j hj
        have hj2 : j < V[i].length := by omega
        have hv : rd_T110 V[i] (j : Int) = V[i][j] := rdiValue_ V[i] j hj2
        rw [List.drop_eq_getElem_cons hj2, List.all_cons]
        have S : ∀ k, spec_l13Rows.l1 (k + 1) V m (i : Int) (j : Int) = if vok V[i][j].f0 V[i][j].f1 V[i][j].f2 = true then spec_l13Rows.l1 k V m (i : Int) ((j + 1 : Nat) : Int) else some false := fun k => by
          rw [spec_l13Rows.l1, if_pos (by omega), if_pos (by omega), rdR_ V i hlt, if_pos (by omega), if_pos (by omega), hv, spec_vok, Option.bind_some, next64 j V[i].length hj2 (by simp only [maxLen]; omega)]
        cases cv : vok V[i][j].f0 V[i][j].f1 V[i][j].f2
        · rw [Bool.false_and, Bool.false_and, Bool.and_false]
          exact Ev.step (f := fun _ => some false) (fun k => by rw [S, cv, if_neg (by decide)]) (Ev.now _)
        · rw [Bool.true_and]
          exact Ev.step (fun k => by rw [S, cv, if_pos rfl]) (ihe (j + 1) (by omega))
    have := inner V[i].length 0 (by omega)
    rw [List.drop_zero] at this
    exact Ev.step (fun k => by rw [spec_l13Rows.l0, if_pos (by omega), if_pos (by omega), rdR_ V i hlt, if_neg c]; rfl) this
theorem spec_rows (V : List (List S110)) (h : SmR V) (m : Int) : Ev (fun k => spec_l13Rows.f k V m) (rowsok m V) :=
  Ev.congr (fun k => by unfold spec_l13Rows.f; rfl) (spec_rows_l0 V h m V.length 0 (by omega))
def prod (A B : List (List S110)) : List (List S110) := A.flatMap fun x => B.map fun y => x ++ y
theorem concat_is (x y : List S110) (hx : x.length ≤ 1000) (hy : y.length ≤ 1000) : Ev (fun k => impl_Value_72.f k x y) (x ++ y) := by
  refine Ev.of (g := fun k => impl_Value_72.f k x y) (fun k => impl_Value_72.mono x y k) (k := 6) ?_
  have w0 : wrap64 (0 + (x.length : Int)) = (x.length : Int) := by unfold wrap64; omega
  have w1 : wrap64 ((x.length : Int) + (y.length : Int)) = (x.length : Int) + (y.length : Int) := by unfold wrap64; omega
  have r0 : impl_Value_72.rd [x, y] 0 = x := rfl
  have r1 : impl_Value_72.rd [x, y] 1 = y := rfl
  have v1 : wrap64 (0 + 1) = 1 := by unfold wrap64; omega
  have v2 : wrap64 (1 + 1) = 2 := by unfold wrap64; omega
  show impl_Value_72.l0 6 [x, y] 0 [x, y] (([x, y] : List (List S110)).length : Int) 0 = some (x ++ y)
  rw [show (([x, y] : List (List S110)).length : Int) = 2 from rfl]
  rw [impl_Value_72.l0, if_pos (by decide), if_pos (by decide), if_pos (by simp), r0, w0, if_neg (by omega), v1]
  rw [impl_Value_72.l0, if_pos (by decide), if_pos (by decide), if_pos (by simp), r1, w1, if_neg (by omega), v2]
  rw [impl_Value_72.l0, if_neg (by decide)]
  unfold impl_Value_111.f
  rw [if_pos (by omega), Option.bind_some, show (([x, y] : List (List S110)).length : Int) = 2 from rfl]
  rw [impl_Value_72.l1, if_pos (by decide), if_pos (by decide), if_pos (by simp), r0, if_pos (by rw [List.length_nil]; omega), v1]
  rw [impl_Value_72.l1, if_pos (by decide), if_pos (by decide), if_pos (by simp), r1, if_pos (by rw [List.nil_append]; omega), v2]
  rw [impl_Value_72.l1, if_neg (by decide), List.nil_append]
theorem join_is (x y : List S110) (hx : x.length ≤ 1000) (hy : y.length ≤ 1000) : spec_l13Join.f x y = some (x ++ y) := by
  unfold spec_l13Join.f
  rw [Option.bind_some, if_pos (by rw [List.length_nil]; omega), Option.bind_some, if_pos (by rw [List.nil_append]; omega), List.nil_append]
def Rs (V : List (List S110)) : Prop := V.length ≤ 400 ∧ ∀ r ∈ V, r.length ≤ 8
theorem prod_drop (A B : List (List S110)) (i : Nat) (h : i < A.length) : prod (A.drop i) B = (B.map fun y => A[i] ++ y) ++ prod (A.drop (i + 1)) B := by unfold prod; rw [List.drop_eq_getElem_cons h, List.flatMap_cons]
theorem impl_prod_l0 (A B : List (List S110)) (hA : Rs A) (hB : Rs B) : ∀ d i (acc : List (List S110)), i + d = A.length → acc.length + 400 * d ≤ 1000000 →
    Ev (fun k => impl_product.l0 k B acc A (A.length : Int) (i : Int)) (acc ++ prod (A.drop i) B, 0)
  | 0, i, acc, hi, hs => by
    rw [List.drop_of_length_le (by omega), show prod [] B = [] from rfl, List.append_nil]
    exact Ev.step (f := fun _ => some (acc, 0)) (fun k => by rw [impl_product.l0, if_neg (by omega)]) (Ev.now _)
  | d + 1, i, acc, hi, hs => by
    have hlt : i < A.length := by omega
    have h1 := hA.1
    have h2 := hB.1
    have wi := next64 i A.length hlt (by simp only [maxLen]; omega)
    rw [prod_drop A B i hlt, ← List.append_assoc]
    have inner : ∀ e j (ac : List (List S110)), j + e = B.length → ac.length = acc.length + j → Ev (fun k => impl_product.l1 k B ac A[i] A (A.length : Int) (i : Int) B (B.length : Int) (j : Int)) (ac ++ ((B.drop j).map fun y => A[i] ++ y) ++ prod (A.drop (i + 1)) B, 0) := by
      intro e
      induction e with
      | zero =>
        intro j ac hj hac
        rw [List.drop_of_length_le (by omega), List.map_nil, List.append_nil]
        exact Ev.step (fun k => by rw [impl_product.l1, if_neg (by omega), wi]) (impl_prod_l0 A B hA hB d (i + 1) ac (by omega) (by omega))
      | succ e ihe =>
        intro j ac hj hac
        have hj2 : j < B.length := by omega
        have ca := concat_is A[i] B[j] (Nat.le_trans (hA.2 _ (List.getElem_mem hlt)) (by omega)) (Nat.le_trans (hB.2 _ (List.getElem_mem hj2)) (by omega))
        have ih := ihe (j + 1) (ac ++ [A[i] ++ B[j]]) (by omega) (by rw [List.length_append, List.length_singleton]; omega)
        rw [List.drop_eq_getElem_cons hj2, List.map_cons]
        rw [show ac ++ [A[i] ++ B[j]] ++ ((B.drop (j + 1)).map fun y => A[i] ++ y) = ac ++ ((A[i] ++ B[j]) :: ((B.drop (j + 1)).map fun y => A[i] ++ y)) by rw [List.append_assoc]; rfl] at ih
        refine Ev.step (f := fun k => (impl_Value_72.f k A[i] B[j]).bind fun t => impl_product.l1 k B (ac ++ [t]) A[i] A (A.length : Int) (i : Int) B (B.length : Int) ((j + 1 : Nat) : Int)) (fun k => ?_) (Ev.bind ca ih)
        rw [impl_product.l1, if_pos (by omega), if_pos (by omega), if_pos (by omega), rdR_ B j hj2, next64 j B.length hj2 (by simp only [maxLen]; omega)]
        simp only [if_pos (show ac.length < 5864062014805 by omega)]
    have := inner B.length 0 acc (by omega) (by omega)
    rw [List.drop_zero] at this
    exact Ev.step (fun k => by rw [impl_product.l0, if_pos (by omega), if_pos (by omega), if_pos (by omega), rdR_ A i hlt]; rfl) this
theorem spec_prod_l0 (A B : List (List S110)) (hA : Rs A) (hB : Rs B) : ∀ d i (acc : List (List S110)), i + d = A.length → acc.length + 400 * d ≤ 1000000 →
    Ev (fun k => spec_l13Product.l0 k A B acc (i : Int)) (acc ++ prod (A.drop i) B)
  | 0, i, acc, hi, hs => by
    rw [List.drop_of_length_le (by omega), show prod [] B = [] from rfl, List.append_nil]
    exact Ev.step (f := fun _ => some acc) (fun k => by rw [spec_l13Product.l0, if_neg (by omega)]) (Ev.now _)
  | d + 1, i, acc, hi, hs => by
    have hlt : i < A.length := by omega
    have h1 := hA.1
    have h2 := hB.1
    have wi := next64 i A.length hlt (by simp only [maxLen]; omega)
    rw [prod_drop A B i hlt, ← List.append_assoc]
    have inner : ∀ e j (ac : List (List S110)), j + e = B.length → ac.length = acc.length + j → Ev (fun k => spec_l13Product.l1 k A B ac (i : Int) (j : Int)) (ac ++ ((B.drop j).map fun y => A[i] ++ y) ++ prod (A.drop (i + 1)) B) := by
      intro e
      induction e with
      | zero =>
        intro j ac hj hac
        rw [List.drop_of_length_le (by omega), List.map_nil, List.append_nil]
        exact Ev.step (fun k => by rw [spec_l13Product.l1, if_neg (by omega), wi]) (spec_prod_l0 A B hA hB d (i + 1) ac (by omega) (by omega))
      | succ e ihe =>
        intro j ac hj hac
        have hj2 : j < B.length := by omega
        have ih := ihe (j + 1) (ac ++ [A[i] ++ B[j]]) (by omega) (by rw [List.length_append, List.length_singleton]; omega)
        rw [List.drop_eq_getElem_cons hj2, List.map_cons]
        rw [show ac ++ [A[i] ++ B[j]] ++ ((B.drop (j + 1)).map fun y => A[i] ++ y) = ac ++ ((A[i] ++ B[j]) :: ((B.drop (j + 1)).map fun y => A[i] ++ y)) by rw [List.append_assoc]; rfl] at ih
        refine Ev.step (fun k => ?_) ih
        rw [spec_l13Product.l1, if_pos (by omega), if_pos (by omega), if_pos (by omega), if_pos (by omega), rdR_ A i hlt, rdR_ B j hj2, join_is A[i] B[j] (Nat.le_trans (hA.2 _ (List.getElem_mem hlt)) (by omega)) (Nat.le_trans (hB.2 _ (List.getElem_mem hj2)) (by omega)), Option.bind_some, if_pos (by omega), next64 j B.length hj2 (by simp only [maxLen]; omega)]
    have := inner B.length 0 acc (by omega) (by omega)
    rw [List.drop_zero] at this
    exact Ev.step (fun k => by rw [spec_l13Product.l0, if_pos (by omega)]; rfl) this
theorem rowsok_rs {V : List (List S110)} (h : rowsok 8 V = true) : Rs V := by
  unfold rowsok at h
  rw [Bool.and_eq_true] at h
  refine ⟨of_decide_eq_true h.1, fun r hr => ?_⟩
  have := List.all_eq_true.1 h.2 r hr
  rw [Bool.and_eq_true] at this
  have := of_decide_eq_true this.1
  omega
def answer (A B : List (List S110)) : List (List S110) × Int :=
  if A.length > 4096 ∨ B.length > 4096 then ([], 2) else if rowsok 8 A = true ∧ rowsok 8 B = true then (if (A.length : Int) * B.length > 400 then ([], 6) else (prod A B, 0)) else ([], 1)
theorem prod_len (B : List (List S110)) : ∀ A : List (List S110), (prod A B).length = A.length * B.length
  | [] => by simp [prod]
  | a :: L => by
    have ih := prod_len B L
    have e : prod (a :: L) B = (B.map fun y => a ++ y) ++ prod L B := rfl
    rw [e, List.length_append, List.length_map, ih, List.length_cons, Nat.succ_mul, Nat.add_comm]
theorem prod_sm {A B : List (List S110)} (hA : Rs A) (hB : Rs B) : (prod A B).length = A.length * B.length ∧ ∀ r ∈ prod A B, r.length ≤ 16 := by
  refine ⟨prod_len B A, fun r hr => ?_⟩
  · unfold prod at hr
    obtain ⟨x, hx, hr⟩ := List.mem_flatMap.1 hr
    obtain ⟨y, hy, rfl⟩ := List.mem_map.1 hr
    have := hA.2 x hx
    have := hB.2 y hy
    rw [List.length_append]; omega
theorem answer_sm (A B : List (List S110)) : SmR (answer A B).1 := by
  have nil : SmR ([] : List (List S110)) := ⟨by simp, fun _ h => by cases h⟩
  unfold answer
  split
  · exact nil
  split
  · rename_i h
    split
    · exact nil
    · obtain ⟨h1, h2⟩ := prod_sm (rowsok_rs h.1) (rowsok_rs h.2)
      have a := (rowsok_rs h.1).1
      have b := (rowsok_rs h.2).1
      have : A.length * B.length ≤ 400 * 400 := Nat.mul_le_mul a b
      exact ⟨by show (prod A B).length ≤ _; omega, fun r hr => Nat.le_trans (h2 r hr) (by omega)⟩
  · exact nil
theorem mul_is {A B : List (List S110)} (hA : Rs A) (hB : Rs B) : wrap64 ((A.length : Int) * (B.length : Int)) = (A.length : Int) * (B.length : Int) := by
  have h : A.length * B.length ≤ 400 * 400 := Nat.mul_le_mul hA.1 hB.1
  have : (A.length : Int) * (B.length : Int) = ((A.length * B.length : Nat) : Int) := by simp
  rw [this]; unfold wrap64; omega
theorem impl_is (A B : List (List S110)) : Ev (fun k => impl_ProductRows.f k A B) (answer A B) := by
  have j : ∀ b, Ev (fun k => impl_ProductRows.j0 k A B b) (if b = true then ([], 2) else if rowsok 8 A = true ∧ rowsok 8 B = true then (if (A.length : Int) * B.length > 400 then ([], 6) else (prod A B, 0)) else ([], 1)) := by
    intro b
    cases b
    · rw [if_neg (by decide)]
      by_cases a : rowsok 8 A = true
      · by_cases c : rowsok 8 B = true
        · rw [if_pos ⟨a, c⟩]
          have hA := rowsok_rs a
          have hB := rowsok_rs c
          have p : Ev (fun k => impl_product.f k A B) (if (A.length : Int) * B.length > 400 then ([], 6) else (prod A B, 0)) := by
            by_cases g : (A.length : Int) * B.length > 400
            · rw [if_pos g]; exact Ev.congr (f := fun _ => some ([], 6)) (fun k => by unfold impl_product.f; rw [mul_is hA hB, if_pos g]) (Ev.now _)
            · rw [if_neg g]
              have h1 := hA.1
              have := impl_prod_l0 A B hA hB A.length 0 [] (by omega) (by rw [List.length_nil]; omega)
              rw [List.drop_zero, List.nil_append] at this
              exact Ev.congr (fun k => by unfold impl_product.f; rw [mul_is hA hB, if_neg g]; rfl) this
          exact Ev.step (f := fun k => (impl_product.f k A B).bind fun q => some (q.1, q.2)) (fun k => by rw [impl_ProductRows.j0, if_neg (by decide), impl_rows, Option.bind_some, if_pos a, impl_rows, Option.bind_some, if_pos c]) (Ev.bind p (Ev.now _))
        · rw [if_neg (fun h => c h.2)]
          exact Ev.step (f := fun _ => some ([], 1)) (fun k => by rw [impl_ProductRows.j0, if_neg (by decide), impl_rows, Option.bind_some, if_pos a, impl_rows, Option.bind_some, if_neg c]) (Ev.now _)
      · rw [if_neg (fun h => a h.1)]
        exact Ev.step (f := fun _ => some ([], 1)) (fun k => by rw [impl_ProductRows.j0, if_neg (by decide), impl_rows, Option.bind_some, if_neg a]) (Ev.now _)
    · rw [if_pos rfl]
      exact Ev.step (f := fun _ => some ([], 2)) (fun k => by rw [impl_ProductRows.j0, if_pos rfl]) (Ev.now _)
  unfold answer
  by_cases a : A.length > 4096
  · have := j true
    rw [if_pos (.inl a)]
    rw [if_pos rfl] at this
    exact Ev.congr (fun k => by unfold impl_ProductRows.f; rw [if_pos (by omega)]) this
  · by_cases b : B.length > 4096
    · have := j true
      rw [if_pos (.inr b)]
      rw [if_pos rfl] at this
      exact Ev.congr (fun k => by unfold impl_ProductRows.f; rw [if_neg (by omega), decide_eq_true (by omega)]) this
    · have := j false
      rw [if_neg (by omega)]
      rw [if_neg (by decide)] at this
      exact Ev.congr (fun k => by unfold impl_ProductRows.f; rw [if_neg (by omega), decide_eq_false (by omega)]) this
theorem spec_is (A B : List (List S110)) (sA : SmR A) (sB : SmR B) : Ev (fun k => spec_ProductRows.f k A B) (answer A B) := by
  have j1 : Ev (fun k => spec_ProductRows.j1 k A B true) (([], 1) : List (List S110) × Int) := Ev.step (f := fun _ => some ([], 1)) (fun k => by rw [spec_ProductRows.j1, if_pos rfl]) (Ev.now _)
  have j : ∀ b, Ev (fun k => spec_ProductRows.j0 k A B b) (if b = true then ([], 2) else if rowsok 8 A = true ∧ rowsok 8 B = true then (if (A.length : Int) * B.length > 400 then ([], 6) else (prod A B, 0)) else ([], 1)) := by
    intro b
    cases b
    · rw [if_neg (by decide)]
      have S : ∀ k, spec_ProductRows.j0 (k + 1) A B false = (spec_l13Rows.f k A 8).bind fun t => if t = true then (spec_l13Rows.f k B 8).bind fun u => spec_ProductRows.j1 k A B (!u) else spec_ProductRows.j1 k A B true := fun k => by
        rw [spec_ProductRows.j0, if_neg (by decide)]
      refine Ev.step S (Ev.bind (spec_rows A sA 8) ?_)
      by_cases a : rowsok 8 A = true
      · refine Ev.congr (fun k => by rw [if_pos a]) (Ev.bind (spec_rows B sB 8) ?_)
        by_cases c : rowsok 8 B = true
        · rw [if_pos ⟨a, c⟩, c]
          have hA := rowsok_rs a
          have hB := rowsok_rs c
          by_cases g : (A.length : Int) * B.length > 400
          · rw [if_pos g]; exact Ev.step (f := fun _ => some ([], 6)) (fun k => by rw [spec_ProductRows.j1, if_neg (by decide), mul_is hA hB, if_pos g]) (Ev.now _)
          · rw [if_neg g]
            have h1 := hA.1
            have := spec_prod_l0 A B hA hB A.length 0 [] (by omega) (by rw [List.length_nil]; omega)
            rw [List.drop_zero, List.nil_append] at this
            refine Ev.step (f := fun k => (spec_l13Product.f k A B).bind fun t => some (t, 0)) (fun k => by rw [spec_ProductRows.j1, if_neg (by decide), mul_is hA hB, if_neg g]) (Ev.bind (Ev.congr (fun k => by unfold spec_l13Product.f; rfl) this) (Ev.now _))
        · rw [if_neg (fun h => c h.2), Bool.eq_false_iff.2 c]; exact j1
      · rw [if_neg (fun h => a h.1)]; exact Ev.congr (fun k => by rw [if_neg a]) j1
    · rw [if_pos rfl]
      exact Ev.step (f := fun _ => some ([], 2)) (fun k => by rw [spec_ProductRows.j0, if_pos rfl]) (Ev.now _)
  unfold answer
  by_cases a : A.length > 4096
  · have := j true
    rw [if_pos (.inl a)]
    rw [if_pos rfl] at this
    exact Ev.congr (fun k => by unfold spec_ProductRows.f; rw [if_pos (by omega)]) this
  · by_cases b : B.length > 4096
    · have := j true
      rw [if_pos (.inr b)]
      rw [if_pos rfl] at this
      exact Ev.congr (fun k => by unfold spec_ProductRows.f; rw [if_neg (by omega), decide_eq_true (by omega)]) this
    · have := j false
      rw [if_neg (by omega)]
      rw [if_neg (by decide)] at this
      exact Ev.congr (fun k => by unfold spec_ProductRows.f; rw [if_neg (by omega), decide_eq_false (by omega)]) this
theorem FnExactProductRows : laws_FnExactProductRows.Need := by
  intro L0 L1 h0 h1
  unfold laws_FnExactProductRows.f
  obtain ⟨m1, e1, a1, b1, d1⟩ := szR_is L0 h0.1 (fun r hr => (h0.2 r hr).1) (fun r hr x hx => ((h0.2 r hr).2 x hx).2.2) 1048576 (by omega)
  apply Ev.rounds
  refine Ev.bind e1 ?_
  by_cases c1 : m1 < 0
  · exact Ev.congr (f := fun _ => some true) (fun k => by rw [if_pos c1]) (Ev.now _)
  obtain ⟨m2, e2, a2, b2, d2⟩ := szR_is L1 h1.1 (fun r hr => (h1.2 r hr).1) (fun r hr x hx => ((h1.2 r hr).2 x hx).2.2) m1 (by omega)
  refine Ev.congr (fun k => by rw [if_neg c1]) (Ev.bind e2 ?_)
  by_cases c2 : m2 < 0
  · exact Ev.congr (f := fun _ => some true) (fun k => by rw [if_pos c2]) (Ev.now _)
  have s0 := d1.resolve_left c1
  have s1 := d2.resolve_left c2
  have t0 := toR_is L0 s0
  have t1 := toR_is L1 s1
  have z0 := cvR_sm s0
  have z1 := cvR_sm s1
  have sp := spec_is (cvR L0) (cvR L1) z0 z1
  have im := impl_is (cvR L0) (cvR L1)
  have sa := answer_sm (cvR L0) (cvR L1)
  have ea := eqR_refl _ sa
  obtain ⟨p, W0, p1, p2, mk0, _⟩ := markR_is (cvR L0) z0 1 (by omega) (by omega)
  obtain ⟨q, W1, q1, q2, mk1, _⟩ := markR_is (cvR L1) z1 p p1 (by omega)
  obtain ⟨u, W2, u1, u2, mk2, hd⟩ := markR_is (answer (cvR L0) (cvR L1)).1 sa 1 (by omega) (by omega)
  refine Ev.congr (fun k => by rw [if_neg c2]) ?_
  refine Ev.bind t0 ?_
  refine Ev.bind t1 ?_
  refine Ev.bind sp ?_
  refine Ev.bind t0 ?_
  refine Ev.bind t1 ?_
  refine Ev.bind im ?_
  refine Ev.bind ea ?_
  refine Ev.congr (fun k => by rw [if_pos rfl, show ((answer (cvR L0) (cvR L1)).2 != (answer (cvR L0) (cvR L1)).2) = false by simp]) ?_
  have j2 : Ev (fun k => laws_FnExactProductRows.j2 k W2 u false) true := by
    refine Ev.step (fun k => by rw [laws_FnExactProductRows.j2, if_neg (by decide)]) ?_
    refine Ev.bind hd ?_
    exact Ev.congr (f := fun _ => some true) (fun k => by rw [if_neg (show ¬ u < 0 by omega), if_pos rfl]) (Ev.now _)
  have j1 : Ev (fun k => laws_FnExactProductRows.j1 k L0 L1 (answer (cvR L0) (cvR L1)).1 (answer (cvR L0) (cvR L1)).2 (answer (cvR L0) (cvR L1)).1 false) true := by
    refine Ev.step (fun k => by rw [laws_FnExactProductRows.j1, if_neg (by decide)]) ?_
    refine Ev.bind mk2 ?_
    refine Ev.bind hd ?_
    refine Ev.congr (fun k => by rw [if_neg (show ¬ u < 0 by omega), if_pos rfl]) ?_
    refine Ev.bind t0 ?_
    refine Ev.bind t1 ?_
    refine Ev.bind im ?_
    refine Ev.bind ea ?_
    refine Ev.congr (fun k => by rw [if_pos rfl, show ((answer (cvR L0) (cvR L1)).2 != (answer (cvR L0) (cvR L1)).2) = false by simp]) ?_
    exact j2
  refine Ev.step (fun k => by rw [laws_FnExactProductRows.j0, if_neg (by decide)]) ?_
  refine Ev.bind t0 ?_
  refine Ev.bind (eqR_refl _ z0) ?_
  refine Ev.congr (fun k => by rw [if_pos rfl]) ?_
  refine Ev.bind t1 ?_
  refine Ev.bind (eqR_refl _ z1) ?_
  refine Ev.congr (fun k => by rw [if_pos rfl]) ?_
  refine Ev.bind mk0 ?_
  refine Ev.bind mk1 ?_
  refine Ev.congr (fun k => by rw [if_neg (show ¬ q < 0 by omega)]) ?_
  refine Ev.bind ea ?_
  refine Ev.congr (fun k => by rw [if_pos rfl, show ((answer (cvR L0) (cvR L1)).2 != (answer (cvR L0) (cvR L1)).2) = false by simp]) ?_
  exact j1
end Go.Proofs.Ytgcbeihkbldeaaa.Pure
