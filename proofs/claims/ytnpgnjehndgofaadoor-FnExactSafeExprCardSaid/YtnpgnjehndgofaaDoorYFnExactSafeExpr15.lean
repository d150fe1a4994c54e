/- Contracts of functions, and what is told of them. -/
import Derived.Test.YtnpgnjehndgofaaDoorYFnExactSafeExpr14
import Derived.Test.YtnpgnjehndgofaaDoorRows
import Derived.LaidByTextLater
import Derived.SevenTiedAt
import Derived.LaidSub
import Derived.LaidOnce
import GoSem.ClaimSeven
set_option linter.unusedSimpArgs false
set_option linter.unusedVariables false
section
/- Trees: what is told of their sizes, their copies and their likeness. -/
namespace Go.Proofs.YtnpgnjehndgofaaDoor.Pure
open Go.RowKit Go.Proofs.YtnpgnjehndgofaaDoor.X Go.Proofs.YtnpgnjehndgofaaDoorW.PrintWords Go.Proofs.YtnpgnjehndgofaaDoorW.PrintLast
theorem rdLt (l : List S26) (i : Nat) (h : i < l.length) : rd_T26 l (i : Int) = l[i] := by simp [rd_T26, h]
theorem rdIt (l : List S33) (i : Nat) (h : i < l.length) : rd_T33 l (i : Int) = l[i] := by simp [rd_T33, h]
def wt : Nat → S26 → Nat
  | 0, _ => 0
  | n + 1, x => x.f2.size + x.f3.size + x.f4.f2.size + x.f5.length + (x.f5.map (wt n)).sum
def left_ (m : Int) (n : Nat) : Int := if (n : Int) ≤ m then m - n else -1
theorem left_add {m : Int} {a b : Nat} (h : (a : Int) ≤ m) : left_ (m - a) b = left_ m (a + b) := by
  unfold left_
  by_cases c : (b : Int) ≤ m - a
  · rw [if_pos c, if_pos (by omega)]; omega
  · rw [if_neg c, if_neg (by omega)]
theorem left_neg {m : Int} {n : Nat} : left_ m n < 0 ↔ ¬ (n : Int) ≤ m := by
  unfold left_
  by_cases c : (n : Int) ≤ m
  · rw [if_pos c]; omega
  · rw [if_neg c]; omega
theorem left_pos {m : Int} {n : Nat} (h : (n : Int) ≤ m) : left_ m n = m - n := if_pos h
theorem left_out {m : Int} {n : Nat} (h : ¬ (n : Int) ≤ m) : left_ m n = -1 := if_neg h
theorem sz_loop (s : laws_szTree.Stub) (c : S26 → Nat) (l : List S26) (hl : l.length ≤ maxLen)
    (h : ∀ y ∈ l, ∀ m : Int, 0 ≤ m → m ≤ 1048576 → Ev (fun k => s.f k y.f0 y.f1 y.f2 y.f3 y.f4.f0 y.f4.f1 y.f4.f2 y.f5 m) (left_ m (c y))) :
    ∀ d i, i + d = l.length → ∀ m : Int, 0 ≤ m → m ≤ 1048576 → Ev (fun k => @laws_szTree.S_.l0 s k l m (i : Int)) (left_ m ((l.drop i).map c).sum)
  | 0, i, hd, m, h0, h1 => by
    have e : l.drop i = [] := List.drop_eq_nil_of_le (by omega)
    rw [e, left_pos (by simpa using h0)]
    exact Ev.step (f := fun _ => some m) (fun k => by rw [laws_szTree.S_.l0, if_neg (by omega)]) (by simpa using Ev.now m)
  | d + 1, i, hd, m, h0, h1 => by
    have hlt : i < l.length := by omega
    rw [List.drop_eq_getElem_cons hlt, List.map_cons, List.sum_cons]
    refine Ev.step (f := fun k => (s.f k l[i].f0 l[i].f1 l[i].f2 l[i].f3 l[i].f4.f0 l[i].f4.f1 l[i].f4.f2 l[i].f5 m).bind fun t => if t < 0 then some (-1) else @laws_szTree.S_.l0 s k l t ((i + 1 : Nat) : Int))
      (fun k => by rw [laws_szTree.S_.l0, if_pos (by omega), if_pos (by omega), rdLt l i hlt, next64 i l.length hlt hl]) ?_
    refine Ev.bind (h _ (List.getElem_mem hlt) m h0 h1) ?_
    by_cases c1 : (c l[i] : Int) ≤ m
    · have ih := sz_loop s c l hl h d (i + 1) (by omega) (m - c l[i]) (by omega) (by omega)
      rw [left_add c1] at ih
      rw [left_pos c1]
      exact Ev.congr (fun k => if_neg (by omega)) ih
    · rw [left_out c1, left_out (by omega)]
      exact Ev.congr (fun k => if_pos (by omega)) (Ev.now _)
theorem sz_node (s : laws_szTree.Stub) (c : S26 → Nat) (x : S26) (h2 : x.f2.size ≤ maxLen) (h3 : x.f3.size ≤ maxLen) (h4 : x.f4.f2.size ≤ maxLen) (hl : x.f5.length ≤ maxLen)
    (h : ∀ y ∈ x.f5, ∀ m : Int, 0 ≤ m → m ≤ 1048576 → Ev (fun k => s.f k y.f0 y.f1 y.f2 y.f3 y.f4.f0 y.f4.f1 y.f4.f2 y.f5 m) (left_ m (c y))) (m : Int) (h0 : 0 ≤ m) (h1 : m ≤ 1048576) :
    Ev (fun k => @laws_szTree.B_.f s k x.f0 x.f1 x.f2 x.f3 x.f4.f0 x.f4.f1 x.f4.f2 x.f5 m) (left_ m (x.f2.size + x.f3.size + x.f4.f2.size + x.f5.length + (x.f5.map c).sum)) := by
  have loop := sz_loop s c x.f5 hl h x.f5.length 0 (by omega)
  simp only [maxLen] at h2 h3 h4 hl
  unfold laws_szTree.B_.f laws_szTree.S_.f laws_szValue.f
  rw [wrap_in (m - (x.f2.size : Int)) (by omega)]
  by_cases c1 : m - (x.f2.size : Int) < 0
  · rw [left_out (by omega)]; exact Ev.congr (fun k => if_pos c1) (Ev.now _)
  rw [wrap_in (m - (x.f2.size : Int) - (x.f3.size : Int)) (by omega)]
  refine Ev.congr (fun k => if_neg c1) ?_
  by_cases c2 : m - (x.f2.size : Int) - (x.f3.size : Int) < 0
  · rw [left_out (by omega)]; exact Ev.congr (fun k => if_pos c2) (Ev.now _)
  rw [wrap_in (m - (x.f2.size : Int) - (x.f3.size : Int) - (x.f4.f2.size : Int)) (by omega)]
  refine Ev.congr (fun k => if_neg c2) ?_
  by_cases c3 : m - (x.f2.size : Int) - (x.f3.size : Int) - (x.f4.f2.size : Int) < 0
  · rw [left_out (by omega)]; exact Ev.congr (fun k => by rw [if_pos c3, Option.bind_some, if_pos (by omega)]) (Ev.now _)
  refine Ev.congr (f := fun k => (if wrap64 (m - (x.f2.size : Int) - (x.f3.size : Int) - (x.f4.f2.size : Int) - (x.f5.length : Int)) < 0 then some (-1) else @laws_szTree.S_.l0 s k x.f5 (wrap64 (m - (x.f2.size : Int) - (x.f3.size : Int) - (x.f4.f2.size : Int) - (x.f5.length : Int))) 0).bind fun t => if t < 0 then some (-1) else some t)
    (fun k => by rw [if_neg c3, Option.bind_some, if_neg c3]) ?_
  rw [wrap_in (m - (x.f2.size : Int) - (x.f3.size : Int) - (x.f4.f2.size : Int) - (x.f5.length : Int)) (by omega)]
  by_cases c4 : m - (x.f2.size : Int) - (x.f3.size : Int) - (x.f4.f2.size : Int) - (x.f5.length : Int) < 0
  · rw [left_out (by omega)]; exact Ev.congr (fun k => by rw [if_pos c4, Option.bind_some, if_pos (by omega)]) (Ev.now _)
  have ih := loop (m - (x.f2.size : Int) - (x.f3.size : Int) - (x.f4.f2.size : Int) - (x.f5.length : Int)) (by omega) (by omega)
  rw [List.drop_zero] at ih
  have e : m - (x.f2.size : Int) - (x.f3.size : Int) - (x.f4.f2.size : Int) - (x.f5.length : Int) = m - ((x.f2.size + x.f3.size + x.f4.f2.size + x.f5.length : Nat) : Int) := by omega
  rw [e] at ih c4 ⊢
  rw [left_add (by omega)] at ih
  refine Ev.bind (Ev.congr (fun k => if_neg c4) ih) ?_
  by_cases c5 : left_ m (x.f2.size + x.f3.size + x.f4.f2.size + x.f5.length + (x.f5.map c).sum) < 0
  · rw [left_out (left_neg.mp c5)]
    exact Ev.congr (fun k => if_pos (by omega)) (Ev.now _)
  · exact Ev.congr (fun k => if_neg c5) (Ev.now _)
theorem st_sz (n m : Nat) (h : n ≤ m) (k : Nat) (x : S26) (a r : Int) (e : (laws_szTree.st n).f k x.f0 x.f1 x.f2 x.f3 x.f4.f0 x.f4.f1 x.f4.f2 x.f5 a = some r) : (laws_szTree.st m).f k x.f0 x.f1 x.f2 x.f3 x.f4.f0 x.f4.f1 x.f4.f2 x.f5 a = some r :=
  at_rounds (g := fun n => (laws_szTree.st n).f k x.f0 x.f1 x.f2 x.f3 x.f4.f0 x.f4.f1 x.f4.f2 x.f5 a) (fun n => laws_szTree.st_le n k x.f0 x.f1 x.f2 x.f3 x.f4.f0 x.f4.f1 x.f4.f2 x.f5 a) h e
theorem szTree_st : ∀ n (x : S26), QU26 n x → ∀ m : Int, 0 ≤ m → m ≤ 1048576 → Ev (fun k => (laws_szTree.st n).f k x.f0 x.f1 x.f2 x.f3 x.f4.f0 x.f4.f1 x.f4.f2 x.f5 m) (left_ m (wt n x))
  | 0, _, h, _, _, _ => h.elim
  | n + 1, x, h, m, h0, h1 => sz_node (laws_szTree.st n) (wt n) x h.2.2.1 h.2.2.2.1 h.2.2.2.2.1.2.2 h.2.2.2.2.2.1 (fun y hy => szTree_st n y (h.2.2.2.2.2.2 y hy)) m h0 h1
theorem szTree_ev (n : Nat) (x : S26) (h : QU26 n x) (m : Int) (h0 : 0 ≤ m) (h1 : m ≤ 1048576) : Ev (fun k => laws_szTree.f k x.f0 x.f1 x.f2 x.f3 x.f4.f0 x.f4.f1 x.f4.f2 x.f5 m) (left_ m (wt n x)) := by
  obtain ⟨K, e⟩ := szTree_st n x h m h0 h1
  exact ⟨max K n, fun k hk => st_sz n k (by omega) k x m _ (e k (by omega))⟩
def cvt : Nat → S26 → S33
  | 0, _ => z33
  | n + 1, x => ⟨x.f0, x.f1, x.f2, x.f3, ⟨x.f4.f0, x.f4.f1, x.f4.f2⟩, x.f5.map (cvt n)⟩
theorem eta_t (y : S33) : (⟨y.f0, y.f1, y.f2, y.f3, ⟨y.f4.f0, y.f4.f1, y.f4.f2⟩, y.f5⟩ : S33) = y := by cases y; rfl
theorem to_loop (s : laws_toTree.Stub) (c : S26 → S33) (l : List S26) (hl : l.length ≤ 1048576)
    (h : ∀ y ∈ l, Ev (fun k => s.f k y.f0 y.f1 y.f2 y.f3 y.f4.f0 y.f4.f1 y.f4.f2 y.f5) ((c y).f0, (c y).f1, (c y).f2, (c y).f3, (c y).f4.f0, (c y).f4.f1, (c y).f4.f2, (c y).f5)) :
    ∀ d i (R : List S33), i + d = l.length → R.length = l.length → Ev (fun k => @laws_toTree.S_.l0 s k l R (i : Int)) (R.take i ++ (l.drop i).map c)
  | 0, i, R, hd, hR => by
    rw [List.take_of_length_le (by omega), List.drop_of_length_le (by omega), List.map_nil, List.append_nil]
    exact Ev.step (f := fun _ => some R) (fun k => by rw [laws_toTree.S_.l0, if_neg (by omega)]) (Ev.now _)
  | d + 1, i, R, hd, hR => by
    have hlt : i < l.length := by omega
    refine Ev.step (f := fun k => (s.f k l[i].f0 l[i].f1 l[i].f2 l[i].f3 l[i].f4.f0 l[i].f4.f1 l[i].f4.f2 l[i].f5).bind fun b => @laws_toTree.S_.l0 s k l (R.set i ⟨b.1, b.2.1, b.2.2.1, b.2.2.2.1, ⟨b.2.2.2.2.1, b.2.2.2.2.2.1, b.2.2.2.2.2.2.1⟩, b.2.2.2.2.2.2.2⟩) ((i + 1 : Nat) : Int))
      (fun k => by rw [laws_toTree.S_.l0, if_pos (by omega), if_pos (by omega), rdLt l i hlt, next64 i l.length hlt (by simp only [maxLen]; omega)]; congr 1; funext b; rw [if_pos (by omega)]; rfl) ?_
    refine Ev.bind (h _ (List.getElem_mem hlt)) ?_
    have ih := to_loop s c l hl h d (i + 1) (R.set i (c l[i])) (by omega) (by rw [List.length_set]; exact hR)
    rw [show List.take (i + 1) (R.set i (c l[i])) = List.take i R ++ [c l[i]] from ?_, List.append_assoc] at ih
    · rw [List.drop_eq_getElem_cons hlt, List.map_cons]
      refine Ev.congr (fun k => ?_) ih
      dsimp only
      rw [eta_t]
    · rw [List.take_succ_eq_append_getElem (by rw [List.length_set]; omega), List.getElem_set_self]
      congr 1
      exact List.take_set_of_le (Nat.le_refl i)
theorem st_to (n m : Nat) (h : n ≤ m) (k : Nat) (x : S26) (r) (e : (laws_toTree.st n).f k x.f0 x.f1 x.f2 x.f3 x.f4.f0 x.f4.f1 x.f4.f2 x.f5 = some r) : (laws_toTree.st m).f k x.f0 x.f1 x.f2 x.f3 x.f4.f0 x.f4.f1 x.f4.f2 x.f5 = some r :=
  at_rounds (g := fun n => (laws_toTree.st n).f k x.f0 x.f1 x.f2 x.f3 x.f4.f0 x.f4.f1 x.f4.f2 x.f5) (fun n => laws_toTree.st_le n k x.f0 x.f1 x.f2 x.f3 x.f4.f0 x.f4.f1 x.f4.f2 x.f5) h e
theorem le_sum {α : Type} (f : α → Nat) : ∀ (l : List α) (x : α), x ∈ l → f x ≤ (l.map f).sum
  | a :: l, x, h => by
    rw [List.map_cons, List.sum_cons]
    rcases List.mem_cons.mp h with rfl | h
    · omega
    · have := le_sum f l x h; omega
theorem toTree_st : ∀ n (x : S26), QU26 n x → wt n x ≤ 1048576 → Ev (fun k => (laws_toTree.st n).f k x.f0 x.f1 x.f2 x.f3 x.f4.f0 x.f4.f1 x.f4.f2 x.f5) ((cvt n x).f0, (cvt n x).f1, (cvt n x).f2, (cvt n x).f3, (cvt n x).f4.f0, (cvt n x).f4.f1, (cvt n x).f4.f2, (cvt n x).f5)
  | 0, _, h, _ => h.elim
  | n + 1, x, h, hw => by
    have hl : x.f5.length ≤ 1048576 := by simp only [wt] at hw; omega
    have loop := to_loop (laws_toTree.st n) (cvt n) x.f5 hl (fun y hy => toTree_st n y (h.2.2.2.2.2.2 y hy) (by have := le_sum (wt n) x.f5 y hy; simp only [wt] at hw; omega)) x.f5.length 0 (List.replicate x.f5.length z33) (by omega) (by simp)
    rw [List.take_zero, List.nil_append, List.drop_zero] at loop
    refine Ev.congr (f := fun k => (@laws_toTree.S_.l0 (laws_toTree.st n) k x.f5 (List.replicate x.f5.length z33) ((0 : Nat) : Int)).bind fun t => some (x.f0, x.f1, x.f2, x.f3, x.f4.f0, x.f4.f1, x.f4.f2, t)) (fun k => ?_) (Ev.bind loop (Ev.now _))
    show @laws_toTree.B_.f (laws_toTree.st n) k _ _ _ _ _ _ _ _ = _
    unfold laws_toTree.B_.f laws_toTree.S_.f laws_toValue.f
    rw [Option.bind_some, if_pos (by omega), if_pos (by omega)]
    rfl
theorem toTree_ev (n : Nat) (x : S26) (h : QU26 n x) (hw : wt n x ≤ 1048576) : Ev (fun k => laws_toTree.f k x.f0 x.f1 x.f2 x.f3 x.f4.f0 x.f4.f1 x.f4.f2 x.f5) ((cvt n x).f0, (cvt n x).f1, (cvt n x).f2, (cvt n x).f3, (cvt n x).f4.f0, (cvt n x).f4.f1, (cvt n x).f4.f2, (cvt n x).f5) := by
  obtain ⟨K, e⟩ := toTree_st n x h hw
  exact ⟨max K n, fun k hk => st_to n k (by omega) k x _ (e k (by omega))⟩
def gt : Nat → S33 → Prop
  | 0, _ => False
  | n + 1, x => x.f2.size ≤ 1048576 ∧ x.f3.size ≤ 1048576 ∧ x.f4.f2.size ≤ 1048576 ∧ x.f5.length ≤ 1048576 ∧ ∀ y ∈ x.f5, gt n y
theorem gt_cvt : ∀ n (x : S26), QU26 n x → wt n x ≤ 1048576 → gt n (cvt n x)
  | 0, _, h, _ => h.elim
  | n + 1, x, h, hw => by
    have hw' := hw
    simp only [wt] at hw'
    refine ⟨?_, ?_, ?_, ?_, ?_⟩
    · show x.f2.size ≤ _; omega
    · show x.f3.size ≤ _; omega
    · show x.f4.f2.size ≤ _; omega
    · show (x.f5.map (cvt n)).length ≤ _; rw [List.length_map]; omega
    · intro y hy
      obtain ⟨z, hz, rfl⟩ := List.mem_map.mp (show y ∈ x.f5.map (cvt n) from hy)
      exact gt_cvt n z (h.2.2.2.2.2.2 z hz) (by have := le_sum (wt n) x.f5 z hz; omega)
def szt : Nat → S33 → Nat
  | 0, _ => 0
  | n + 1, x => 1 + (x.f5.map (szt n)).sum
theorem sum_le {α β : Type} (f : α → Nat) (g : β → Nat) (c : α → β) : ∀ (l : List α), (∀ x ∈ l, g (c x) ≤ 1 + f x) → ((l.map c).map g).sum ≤ l.length + (l.map f).sum
  | [], _ => by simp
  | a :: l, h => by
    have h1 := h a List.mem_cons_self
    have h2 := sum_le f g c l fun x hx => h x (List.mem_cons_of_mem _ hx)
    simp only [List.map_cons, List.sum_cons, List.length_cons]
    omega
theorem szt_le : ∀ n (x : S26), szt n (cvt n x) ≤ 1 + wt n x
  | 0, _ => by simp [szt]
  | n + 1, x => by
    have := sum_le (wt n) (szt n) (cvt n) x.f5 fun y _ => szt_le n y
    show 1 + ((x.f5.map (cvt n)).map (szt n)).sum ≤ _
    simp only [wt]
    omega
theorem eqt_loop (s : laws_eqTree.Stub) (l : List S33) (hl : l.length ≤ 1048576)
    (h : ∀ y ∈ l, Ev (fun k => s.f k y.f0 y.f1 y.f2 y.f3 y.f4.f0 y.f4.f1 y.f4.f2 y.f5 y.f0 y.f1 y.f2 y.f3 y.f4.f0 y.f4.f1 y.f4.f2 y.f5) true) :
    ∀ d i, i + d = l.length → Ev (fun k => @laws_eqTree.S_.l0 s k l l (i : Int)) true
  | 0, i, hd => Ev.step (f := fun _ => some true) (fun k => by rw [laws_eqTree.S_.l0, if_neg (by omega)]) (Ev.now _)
  | d + 1, i, hd => by
    have hlt : i < l.length := by omega
    refine Ev.step (f := fun k => (s.f k l[i].f0 l[i].f1 l[i].f2 l[i].f3 l[i].f4.f0 l[i].f4.f1 l[i].f4.f2 l[i].f5 l[i].f0 l[i].f1 l[i].f2 l[i].f3 l[i].f4.f0 l[i].f4.f1 l[i].f4.f2 l[i].f5).bind fun t => if t = true then @laws_eqTree.S_.l0 s k l l ((i + 1 : Nat) : Int) else some false)
      (fun k => by rw [laws_eqTree.S_.l0, if_pos (by omega), if_pos (by omega), if_pos (by omega), rdIt l i hlt, next64 i l.length hlt (by simp only [maxLen]; omega)]) ?_
    exact Ev.bind (h _ (List.getElem_mem hlt)) (Ev.congr (fun k => if_pos rfl) (eqt_loop s l hl h d (i + 1) (by omega)))
theorem st_eq (n m : Nat) (h : n ≤ m) (k : Nat) (x : S33) (r) (e : (laws_eqTree.st n).f k x.f0 x.f1 x.f2 x.f3 x.f4.f0 x.f4.f1 x.f4.f2 x.f5 x.f0 x.f1 x.f2 x.f3 x.f4.f0 x.f4.f1 x.f4.f2 x.f5 = some r) : (laws_eqTree.st m).f k x.f0 x.f1 x.f2 x.f3 x.f4.f0 x.f4.f1 x.f4.f2 x.f5 x.f0 x.f1 x.f2 x.f3 x.f4.f0 x.f4.f1 x.f4.f2 x.f5 = some r :=
  at_rounds (g := fun n => (laws_eqTree.st n).f k x.f0 x.f1 x.f2 x.f3 x.f4.f0 x.f4.f1 x.f4.f2 x.f5 x.f0 x.f1 x.f2 x.f3 x.f4.f0 x.f4.f1 x.f4.f2 x.f5) (fun n => laws_eqTree.st_le n k x.f0 x.f1 x.f2 x.f3 x.f4.f0 x.f4.f1 x.f4.f2 x.f5 x.f0 x.f1 x.f2 x.f3 x.f4.f0 x.f4.f1 x.f4.f2 x.f5) h e
theorem eqTree_st : ∀ n (x : S33), gt n x → Ev (fun k => (laws_eqTree.st n).f k x.f0 x.f1 x.f2 x.f3 x.f4.f0 x.f4.f1 x.f4.f2 x.f5 x.f0 x.f1 x.f2 x.f3 x.f4.f0 x.f4.f1 x.f4.f2 x.f5) true
  | 0, _, h => h.elim
  | n + 1, x, h => by
    have loop := eqt_loop (laws_eqTree.st n) x.f5 h.2.2.2.1 (fun y hy => eqTree_st n y (h.2.2.2.2 y hy)) x.f5.length 0 (by omega)
    refine Ev.congr (f := fun k => (@laws_eqTree.S_.l0 (laws_eqTree.st n) k x.f5 x.f5 ((0 : Nat) : Int)).bind fun t => if t = true then some true else some false) (fun k => ?_) (Ev.bind loop (Ev.congr (fun k => if_pos rfl) (Ev.now _)))
    show @laws_eqTree.B_.f (laws_eqTree.st n) k _ _ _ _ _ _ _ _ _ _ _ _ _ _ _ _ = _
    unfold laws_eqTree.B_.f laws_eqTree.S_.f
    rw [if_pos rfl, if_pos rfl, if_pos rfl, if_pos rfl, eqv_refl, Option.bind_some, if_pos rfl, if_pos rfl]
    rfl
theorem eqTree_ev (n : Nat) (x : S33) (h : gt n x) : Ev (fun k => laws_eqTree.f k x.f0 x.f1 x.f2 x.f3 x.f4.f0 x.f4.f1 x.f4.f2 x.f5 x.f0 x.f1 x.f2 x.f3 x.f4.f0 x.f4.f1 x.f4.f2 x.f5) true := by
  obtain ⟨K, e⟩ := eqTree_st n x h
  exact ⟨max K n, fun k hk => st_eq n k (by omega) k x _ (e k (by omega))⟩
end Go.Proofs.YtnpgnjehndgofaaDoor.Pure
end

section
/- The bounds of a tree: its depth, its nodes. -/
namespace Go.Proofs.YtnpgnjehndgofaaDoor.Pure
open Go.RowKit Go.Proofs.YtnpgnjehndgofaaDoor.X Go.Proofs.YtnpgnjehndgofaaDoorW.PrintWords Go.Proofs.YtnpgnjehndgofaaDoorW.PrintLast
def deep : Nat → S33 → Bool
  | 0, _ => true
  | l + 1, x => x.f5.any (deep l)
theorem isDeep_t : ∀ l k (x : S33), l ≤ 20 → l < k → impl_isDeep.t k x (l : Int) = some (deep l x)
  | _, 0, _, _, h => absurd h (Nat.not_lt_zero _)
  | 0, k + 1, x, _, _ => by rw [impl_isDeep.t, if_pos (by omega)]; rfl
  | l + 1, k + 1, x, hl, hk => by
    rw [impl_isDeep.t, if_neg (by omega), show wrap64 (((l + 1 : Nat) : Int) - 1) = (l : Int) by rw [wrap_in _ (by omega)]; omega]
    exact anyM_mk (deep l) fun y _ => isDeep_t l k y (by omega) (by omega)
theorem isDeep_ev (x : S33) : Ev (fun k => impl_isDeep.f k x.f0 x.f1 x.f2 x.f3 x.f4.f0 x.f4.f1 x.f4.f2 x.f5 20) (deep 20 x) :=
  ⟨21, fun k hk => by
    unfold impl_isDeep.f
    rw [eta_t]
    exact isDeep_t 20 k x (by omega) (by omega)⟩
theorem ts_loop (c : S33 → Nat) (l : List S33) (hl : l.length ≤ 1048576)
    (h : ∀ y ∈ l, Ev (fun k => impl_TreeSize.f k y.f0 y.f1 y.f2 y.f3 y.f4.f0 y.f4.f1 y.f4.f2 y.f5) (c y : Int)) :
    ∀ d i, i + d = l.length → ∀ a : Nat, a + ((l.drop i).map c).sum ≤ 2097153 → Ev (fun k => impl_TreeSize.l0 k (a : Int) l (l.length : Int) (i : Int)) ((a + ((l.drop i).map c).sum : Nat) : Int)
  | 0, i, hd, a, _ => by
    have e : l.drop i = [] := List.drop_eq_nil_of_le (by omega)
    rw [e]
    exact Ev.step (f := fun _ => some (a : Int)) (fun k => by rw [impl_TreeSize.l0, if_neg (by omega)]) (by simpa using Ev.now (a : Int))
  | d + 1, i, hd, a, ha => by
    have hlt : i < l.length := by omega
    rw [List.drop_eq_getElem_cons hlt, List.map_cons, List.sum_cons] at ha ⊢
    refine Ev.step (f := fun k => (impl_TreeSize.f k l[i].f0 l[i].f1 l[i].f2 l[i].f3 l[i].f4.f0 l[i].f4.f1 l[i].f4.f2 l[i].f5).bind fun t => impl_TreeSize.l0 k (wrap64 ((a : Int) + t)) l (l.length : Int) ((i + 1 : Nat) : Int))
      (fun k => by rw [impl_TreeSize.l0, if_pos (by omega), if_pos (by omega), if_pos (by omega), rdIt l i hlt, next64 i l.length hlt (by simp only [maxLen]; omega)]) ?_
    refine Ev.bind (h _ (List.getElem_mem hlt)) ?_
    rw [show wrap64 ((a : Int) + (c l[i] : Int)) = ((a + c l[i] : Nat) : Int) by rw [wrap_in _ (by omega)]; omega, ← Nat.add_assoc]
    exact ts_loop c l hl h d (i + 1) (by omega) (a + c l[i]) (by omega)
theorem treeSize_ev : ∀ n (x : S33), gt n x → szt n x ≤ 2097153 → Ev (fun k => impl_TreeSize.f k x.f0 x.f1 x.f2 x.f3 x.f4.f0 x.f4.f1 x.f4.f2 x.f5) (szt n x : Int)
  | 0, _, h, _ => h.elim
  | n + 1, x, h, hs => by
    simp only [szt] at hs ⊢
    have loop := ts_loop (szt n) x.f5 h.2.2.2.1 (fun y hy => treeSize_ev n y (h.2.2.2.2 y hy) (by have := le_sum (szt n) x.f5 y hy; omega)) x.f5.length 0 (by omega) 1 (by rw [List.drop_zero]; omega)
    rw [List.drop_zero] at loop
    exact Ev.step (fun k => by rw [impl_TreeSize.f]; rfl) loop
def lf (q : Bool) (n : Nat) (m : Int) : Int := if q = true then -1 else left_ m n
theorem ll_loop (c : S33 → Nat) (q : S33 → Bool) (a0 a1 : Int) (a2 a3 : ByteArray) (a4 a5 : Int) (a6 : ByteArray) (dp : Int) (l : List S33) (hl : l.length ≤ 1048576)
    (h : ∀ y ∈ l, ∀ m : Int, 0 ≤ m → m ≤ 120 → Ev (fun k => spec_l10Left.f k y.f0 y.f1 y.f2 y.f3 y.f4.f0 y.f4.f1 y.f4.f2 y.f5 m (wrap64 (dp + 1))) (lf (q y) (c y) m)) :
    ∀ d i, i + d = l.length → ∀ m : Int, 0 ≤ m → m ≤ 120 → Ev (fun k => spec_l10Left.l0 k m dp (i : Int) a0 a1 a2 a3 a4 a5 a6 l) (lf ((l.drop i).any q) ((l.drop i).map c).sum m)
  | 0, i, hd, m, h0, h1 => by
    have e : l.drop i = [] := List.drop_eq_nil_of_le (by omega)
    rw [e]
    exact Ev.step (f := fun _ => some m) (fun k => by rw [spec_l10Left.l0, if_neg (by omega)]) (by simpa [lf, left_, h0] using Ev.now m)
  | d + 1, i, hd, m, h0, h1 => by
    have hlt : i < l.length := by omega
    rw [List.drop_eq_getElem_cons hlt, List.map_cons, List.sum_cons, List.any_cons]
    refine Ev.step (f := fun k => (spec_l10Left.f k l[i].f0 l[i].f1 l[i].f2 l[i].f3 l[i].f4.f0 l[i].f4.f1 l[i].f4.f2 l[i].f5 m (wrap64 (dp + 1))).bind fun t => spec_l10Left.l0 k t dp ((i + 1 : Nat) : Int) a0 a1 a2 a3 a4 a5 a6 l)
      (fun k => by rw [spec_l10Left.l0, if_pos (by omega), if_pos (by omega), if_pos (by omega), rdIt l i hlt, next64 i l.length hlt (by simp only [maxLen]; omega)]) ?_
    refine Ev.bind (h _ (List.getElem_mem hlt) m h0 h1) ?_
    have stop : Ev (fun k => spec_l10Left.l0 k (-1) dp ((i + 1 : Nat) : Int) a0 a1 a2 a3 a4 a5 a6 l) (-1) := by
      refine Ev.step (f := fun _ => some (-1)) (fun k => ?_) (Ev.now _)
      rw [spec_l10Left.l0, if_neg (show ¬ ((-1 : Int) ≥ 0) by decide)]
      by_cases cc : ((i + 1 : Nat) : Int) < (l.length : Int)
      · rw [if_pos cc]
      · rw [if_neg cc]
    by_cases cq : q l[i] = true
    · rw [cq]; exact stop
    · rw [Bool.not_eq_true] at cq
      rw [cq, Bool.false_or]
      have e : lf false (c l[i]) m = left_ m (c l[i]) := if_neg (by decide)
      rw [e]
      by_cases c1 : (c l[i] : Int) ≤ m
      · have ih := ll_loop c q a0 a1 a2 a3 a4 a5 a6 dp l hl h d (i + 1) (by omega) (m - c l[i]) (by omega) (by omega)
        rw [left_pos c1]
        have e2 : lf ((l.drop (i + 1)).any q) ((l.drop (i + 1)).map c).sum (m - c l[i]) = lf ((l.drop (i + 1)).any q) (c l[i] + ((l.drop (i + 1)).map c).sum) m := by
          unfold lf; rw [left_add c1]
        rw [← e2]
        exact ih
      · rw [left_out c1]
        have e2 : lf ((l.drop (i + 1)).any q) (c l[i] + ((l.drop (i + 1)).map c).sum) m = -1 := by
          unfold lf; rw [left_out (by omega), ite_self]
        rw [e2]
        exact stop
theorem left_ev : ∀ n (x : S33), gt n x → ∀ (l : Nat) (dp : Int), l ≤ 20 → dp = 21 - (l : Int) → ∀ m : Int, 0 ≤ m → m ≤ 120 → Ev (fun k => spec_l10Left.f k x.f0 x.f1 x.f2 x.f3 x.f4.f0 x.f4.f1 x.f4.f2 x.f5 m dp) (lf (deep l x) (szt n x) m)
  | 0, _, h, _, _, _, _, _, _, _ => h.elim
  | n + 1, x, h, 0, dp, hl, hd, m, h0, h1 => Ev.step (f := fun _ => some (-1)) (fun k => by rw [spec_l10Left.f, if_pos (by omega)]) (Ev.now _)
  | n + 1, x, h, l + 1, dp, hl, hd, m, h0, h1 => by
    refine Ev.step (f := fun k => spec_l10Left.l0 k (m - 1) dp ((0 : Nat) : Int) x.f0 x.f1 x.f2 x.f3 x.f4.f0 x.f4.f1 x.f4.f2 x.f5) (fun k => by rw [spec_l10Left.f, if_neg (by omega), wrap_in (m - 1) (by omega)]; rfl) ?_
    simp only [szt]
    by_cases c : m = 0
    · have e : lf (deep (l + 1) x) (1 + (x.f5.map (szt n)).sum) m = -1 := by unfold lf; rw [left_out (by omega), ite_self]
      rw [e, c]
      refine Ev.step (f := fun _ => some (-1)) (fun k => ?_) (Ev.now _)
      rw [spec_l10Left.l0, if_neg (show ¬ ((0 : Int) - 1 ≥ 0) by decide)]
      by_cases cc : ((0 : Nat) : Int) < (x.f5.length : Int)
      · rw [if_pos cc]; rfl
      · rw [if_neg cc]; rfl
    · have ih := ll_loop (szt n) (deep l) x.f0 x.f1 x.f2 x.f3 x.f4.f0 x.f4.f1 x.f4.f2 dp x.f5 h.2.2.2.1 (fun y hy m h0 h1 => left_ev n y (h.2.2.2.2 y hy) l (wrap64 (dp + 1)) (by omega) (by rw [wrap_in _ (by omega)]; omega) m h0 h1) x.f5.length 0 (by omega) (m - 1) (by omega) (by omega)
      rw [List.drop_zero] at ih
      have e : lf (deep (l + 1) x) (1 + (x.f5.map (szt n)).sum) m = lf (x.f5.any (deep l)) (x.f5.map (szt n)).sum (m - 1) := by
        show lf (x.f5.any (deep l)) _ _ = _
        unfold lf; rw [← left_add (a := 1) (by omega)]; rfl
      rw [e]
      exact ih
def bnd (n : Nat) (x : S33) : Bool := !deep 20 x && decide (szt n x ≤ 120)
theorem bounded_ev (n : Nat) (x : S33) (h : gt n x) (hs : szt n x ≤ 2097153) : Ev (fun k => impl_isBounded.f k x.f0 x.f1 x.f2 x.f3 x.f4.f0 x.f4.f1 x.f4.f2 x.f5) (bnd n x) := by
  unfold impl_isBounded.f bnd
  refine Ev.bind (isDeep_ev x) ?_
  cases deep 20 x
  · refine Ev.congr (fun k => if_neg (by decide)) (Ev.bind (treeSize_ev n x h hs) ?_)
    rw [Bool.not_false, Bool.true_and]
    refine Ev.congr (fun k => ?_) (Ev.now _)
    congr 1
    rw [decide_eq_decide]; omega
  · exact Ev.congr (fun k => if_pos rfl) (Ev.now _)
theorem left_bnd (n : Nat) (x : S33) (h : gt n x) : ∃ r : Int, Ev (fun k => spec_l10Left.f k x.f0 x.f1 x.f2 x.f3 x.f4.f0 x.f4.f1 x.f4.f2 x.f5 120 1) r ∧ (r ≥ 0 ↔ bnd n x = true) := by
  refine ⟨_, left_ev n x h 20 1 (by omega) (by decide) 120 (by decide) (by decide), ?_⟩
  unfold bnd lf
  cases deep 20 x
  · rw [if_neg (by decide), Bool.not_false, Bool.true_and, decide_eq_true_iff]
    have := @left_neg 120 (szt n x)
    omega
  · rw [if_pos rfl]; simp
end Go.Proofs.YtnpgnjehndgofaaDoor.Pure
end

section
/- Right expressions. -/
namespace Go.Proofs.YtnpgnjehndgofaaDoor.Pure
open Go.RowKit Go.Proofs.YtnpgnjehndgofaaDoor.X Go.Proofs.YtnpgnjehndgofaaDoorW.PrintWords Go.Proofs.YtnpgnjehndgofaaDoorW.PrintLast
def strs4 : List ByteArray := [(⟨#[45]⟩ : ByteArray), (⟨#[110, 111, 116]⟩ : ByteArray), (⟨#[105, 115, 110, 117, 108, 108]⟩ : ByteArray), (⟨#[105, 115, 110, 111, 116, 110, 117, 108, 108]⟩ : ByteArray)]
def aggs4 : List ByteArray := [(⟨#[99, 111, 117, 110, 116]⟩ : ByteArray), (⟨#[115, 117, 109]⟩ : ByteArray), (⟨#[109, 105, 110]⟩ : ByteArray), (⟨#[109, 97, 120]⟩ : ByteArray)]
def noVal (x : S30) : Bool := x.f0 == 0 && (x.f1 == 0 && (x.f2.toList == ([] : List UInt8)))
def node (x : S33) (a : Bool) : Bool :=
  if x.f0 = 13 then (x.f1 == 0 && (x.f2.toList == [] && (x.f3.toList == [] && decide (x.f5.length = 0)))) && (vok x.f4.f0 x.f4.f1 x.f4.f2 && (if x.f4.f0 = 2 then decide (0 ≤ x.f4.f1) && decide (x.f4.f1 ≤ 999999999999999999) else true))
  else if x.f0 = 14 then (x.f1 == 0 && (noVal x.f4 && decide (x.f5.length = 0))) && (free x.f2 && (x.f3.toList == [] || free x.f3))
  else if x.f0 = 15 then (x.f1 == 0 && (noVal x.f4 && (x.f3.toList == [] && decide (x.f5.length = 1)))) && strs4.any fun y => x.f2.toList == y.toList
  else if x.f0 = 16 then (x.f1 == 0 && (noVal x.f4 && (x.f3.toList == [] && decide (x.f5.length = 2)))) && decide (lvl x.f2.toList > 0)
  else if x.f0 = 17 then a && ((x.f1 == 0 && (noVal x.f4 && x.f3.toList == [])) && ((aggs4.any fun y => x.f2.toList == y.toList) && (if x.f5.length = 1 then true else if x.f5.length = 0 then x.f2.toList == ([99, 111, 117, 110, 116] : List UInt8) else false)))
  else false
def ex : Nat → S33 → Bool → Bool
  | 0, _, _ => false
  | n + 1, x, a => (x.f5.all fun y => ex n y (a && x.f0 != 17)) && node x a
theorem has_e (a1 : Int) (a2 a3 : ByteArray) (v : S30) (n : Nat) (f1 f2 f3 f4 : Bool) (m : Int) :
    impl_Tree_has.e a1 a2 a3 v.f0 v.f1 v.f2 n f1 f2 f3 f4 m = ((f1 || a1 == 0) && ((f2 || a2.toList == []) && ((f3 || a3.toList == []) && ((f4 || noVal v) && (decide (m < 0) || ((n : Int) == m)))))) := rfl
theorem has_c0 (x : S33) (m : Int) : impl_Tree_has.f x.f0 x.f1 x.f2 x.f3 x.f4.f0 x.f4.f1 x.f4.f2 x.f5 false false false true m = some (x.f1 == 0 && (x.f2.toList == [] && (x.f3.toList == [] && (decide (m < 0) || ((x.f5.length : Int) == m))))) := by
  unfold impl_Tree_has.f; rw [if_pos (by simp), has_e]; simp
theorem has_c1 (x : S33) (m : Int) : impl_Tree_has.f x.f0 x.f1 x.f2 x.f3 x.f4.f0 x.f4.f1 x.f4.f2 x.f5 false true true false m = some (x.f1 == 0 && (noVal x.f4 && (decide (m < 0) || ((x.f5.length : Int) == m)))) := by
  unfold impl_Tree_has.f; rw [if_pos (by simp), has_e]; simp
theorem has_c2 (x : S33) (m : Int) : impl_Tree_has.f x.f0 x.f1 x.f2 x.f3 x.f4.f0 x.f4.f1 x.f4.f2 x.f5 false true false false m = some (x.f1 == 0 && (x.f3.toList == [] && (noVal x.f4 && (decide (m < 0) || ((x.f5.length : Int) == m))))) := by
  unfold impl_Tree_has.f; rw [if_pos (by simp), has_e]; simp
theorem len_i (n m : Nat) : ((n : Int) == (m : Int)) = decide (n = m) := by
  rw [Bool.eq_iff_iff, beq_iff_eq, decide_eq_true_iff]; omega
theorem maybe_ev (s : ByteArray) (hs : s.size ≤ 1048576) (k : Nat) (hk : 1048620 < k) : impl_isMaybe.f k s = some (s.toList == [] || free s) := by
  unfold impl_isMaybe.f
  by_cases c : s.toList = []
  · rw [if_pos c, c]; rfl
  · rw [if_neg c, impl_free s (by simp only [maxLen]; omega) k (by omega), Option.bind_some, beq_eq_false_iff_ne.mpr c, Bool.false_or]
theorem impl_node (G : List S33 → Bool → Int → Option Bool) (b : Bool) (x : S33) (a : Bool) (h2 : x.f2.size ≤ 1048576) (h3 : x.f3.size ≤ 1048576) (hG : G x.f5 a x.f0 = some b) (k : Nat) (hk : 1048640 < k) :
    impl_exprOK.B G k x.f0 x.f1 x.f2 x.f3 x.f4.f0 x.f4.f1 x.f4.f2 x.f5 a = some (!b && node x a) := by
  unfold impl_exprOK.B node
  rw [hG, Option.bind_some]
  cases b
  · rw [if_neg (by decide), Bool.not_false, Bool.true_and]
    by_cases c3 : x.f0 = 13
    · rw [if_pos c3, if_pos c3, has_c0, Option.bind_some, impl_vok, impl_in, show (0 : Int) = ((0 : Nat) : Int) from rfl, len_i]
      cases (x.f1 == ((0 : Nat) : Int)) <;> cases (x.f2.toList == ([] : List UInt8)) <;> cases (x.f3.toList == ([] : List UInt8)) <;> cases decide (x.f5.length = 0) <;> cases vok x.f4.f0 x.f4.f1 x.f4.f2 <;> first | rfl | (simp; done) | (simp; split <;> simp_all)
    rw [if_neg c3, if_neg c3]
    by_cases c4 : x.f0 = 14
    · rw [if_pos c4, if_pos c4, has_c1, Option.bind_some, impl_free x.f2 (by simp only [maxLen]; omega) k (by omega), maybe_ev x.f3 h3 k (by omega), show (0 : Int) = ((0 : Nat) : Int) from rfl, len_i]
      cases (x.f1 == ((0 : Nat) : Int)) <;> cases noVal x.f4 <;> cases decide (x.f5.length = 0) <;> cases free x.f2 <;> first | rfl | (simp; done)
    rw [if_neg c4, if_neg c4]
    by_cases c5 : x.f0 = 15
    · rw [if_pos c5, if_pos c5, has_c2, Option.bind_some, show (1 : Int) = ((1 : Nat) : Int) from rfl, len_i, contains_is _ _ (by decide) k (by simp; omega)]
      cases (x.f1 == 0) <;> cases noVal x.f4 <;> cases (x.f3.toList == ([] : List UInt8)) <;> cases decide (x.f5.length = 1) <;> first | rfl | (simp [strs4]; done)
    rw [if_neg c5, if_neg c5]
    by_cases c6 : x.f0 = 16
    · rw [if_pos c6, if_pos c6, has_c2, Option.bind_some, show (2 : Int) = ((2 : Nat) : Int) from rfl, len_i, impl_lvl k (by omega)]
      cases (x.f1 == 0) <;> cases noVal x.f4 <;> cases (x.f3.toList == ([] : List UInt8)) <;> cases decide (x.f5.length = 2) <;> first | rfl | (simp; done)
    rw [if_neg c6, if_neg c6]
    by_cases c7 : x.f0 = 17
    · rw [if_pos c7, if_pos c7, has_c2, Option.bind_some]
      unfold impl_aggregates.f
      rw [Option.bind_some, contains_is _ _ (by decide) k (by simp; omega)]
      have e1 : ((x.f5.length : Int) = 1) = (x.f5.length = 1) := by rw [eq_iff_iff]; omega
      have e0 : ((x.f5.length : Int) = 0) = (x.f5.length = 0) := by rw [eq_iff_iff]; omega
      have hd : (decide ((-1 : Int) < 0) || ((x.f5.length : Int) == -1)) = true := by simp
      simp only [e1, e0, hd]
      obtain ⟨q, hq⟩ : ∃ q, q = aggs4.any fun y => x.f2.toList == y.toList := ⟨_, rfl⟩
      unfold aggs4 at hq ⊢
      rw [← hq]
      cases a <;> cases (x.f1 == 0) <;> cases noVal x.f4 <;> cases (x.f3.toList == ([] : List UInt8)) <;> first | rfl | skip
      rw [if_pos rfl, if_pos (by decide), Option.bind_some]
      cases q
      · rfl
      · by_cases l1 : x.f5.length = 1
        · rw [if_pos rfl, if_pos l1, if_pos l1]; rfl
        · rw [if_pos rfl, if_neg l1, if_neg l1]
          by_cases l0 : x.f5.length = 0
          · rw [if_pos l0, if_pos l0]; rfl
          · rw [if_neg l0, if_neg l0]; rfl
    rw [if_neg c7, if_neg c7]
  · rfl
theorem exprOK_t : ∀ n (x : S33), gt n x → ∀ a k, 1048650 + n < k → impl_exprOK.t k x a = some (ex n x a)
  | 0, _, h, _, _, _ => h.elim
  | n + 1, x, h, a, 0, hk => absurd hk (Nat.not_lt_zero _)
  | n + 1, x, h, a, k + 1, hk => by
    rw [impl_exprOK.t, impl_node _ (x.f5.any fun y => !ex n y (a && x.f0 != 17)) x a h.1 h.2.1 ?_ k (by omega)]
    · rw [ex]
      congr 2
      rw [Bool.eq_iff_iff]
      simp
    · exact anyM_mk _ fun y hy => by rw [exprOK_t n y (h.2.2.2.2 y hy) _ k (by omega)]; rfl
theorem exprOK_ev (n : Nat) (x : S33) (h : gt n x) (a : Bool) : Ev (fun k => impl_exprOK.f k x.f0 x.f1 x.f2 x.f3 x.f4.f0 x.f4.f1 x.f4.f2 x.f5 a) (ex n x a) :=
  ⟨1048651 + n, fun k hk => by
    unfold impl_exprOK.f
    rw [eta_t]
    exact exprOK_t n x h a k (by omega)⟩
end Go.Proofs.YtnpgnjehndgofaaDoor.Pure
end

section
/- Right expressions, as the reference tells them. -/
namespace Go.Proofs.YtnpgnjehndgofaaDoor.Pure
open Go.RowKit Go.Proofs.YtnpgnjehndgofaaDoor.X Go.Proofs.YtnpgnjehndgofaaDoorW.PrintWords Go.Proofs.YtnpgnjehndgofaaDoorW.PrintLast
set_option maxHeartbeats 4000000 in
theorem spec_t : ∀ n (x : S33), gt n x → ∀ a k, 1048650 + n < k → spec_l10Expr.t k x a = some (ex n x a)
  | 0, _, h, _, _, _ => h.elim
  | n + 1, x, h, a, 0, hk => absurd hk (Nat.not_lt_zero _)
  | n + 1, x, h, a, k + 1, hk => by
    have ih : ∀ y ∈ x.f5, ∀ b, spec_l10Expr.t k y b = some (ex n y b) := fun y hy b => spec_t n y (h.2.2.2.2 y hy) b k (by omega)
    have hkid : ∀ (i : Nat) b, (x.f5[i]?.elim (some false) fun y => spec_l10Expr.t k y b) = some (x.f5[i]?.elim false fun y => ex n y b) := fun i b => by
      cases e : x.f5[i]? with
      | none => rfl
      | some y => exact ih y (List.mem_of_getElem? e) b
    have h2 := h.1
    have h3 := h.2.1
    rw [spec_l10Expr.t, spec_free x.f2 (by simp only [maxLen]; omega) k (by omega), spec_free x.f3 (by simp only [maxLen]; omega) k (by omega), spec_lvl k (by omega), spec_vok, spec_in, hkid, hkid, hkid]
    simp only [Option.bind_some, Option.some.injEq]
    rw [ex]
    clear ih hkid h h2 h3
    obtain ⟨x0, x1, x2, x3, v, l⟩ := x
    dsimp only
    unfold spec_l10Expr.e node
    dsimp only
    by_cases c3 : x0 = 13
    · subst c3
      rw [if_pos rfl, if_pos rfl]
      rw [show (0 : Int) = ((0 : Nat) : Int) from rfl, len_i]
      by_cases d4 : l.length = 0
      · obtain rfl : l = [] := List.eq_nil_of_length_eq_zero d4
        cases (x1 == ((0 : Nat) : Int)) <;> cases (x2.toList == ([] : List UInt8)) <;> cases (x3.toList == ([] : List UInt8)) <;> cases vok v.f0 v.f1 v.f2 <;> first | rfl | (by_cases d5 : v.f0 = 2 <;> simp [d5])
      · rw [decide_eq_false d4]; simp
    rw [if_neg c3, if_neg c3]
    by_cases c4 : x0 = 14
    · subst c4
      rw [if_pos rfl, if_pos rfl]
      change (x1 == 0 && (noVal v && _)) = _
      rw [show ((l.length : Int) == 0) = decide (l.length = 0) from len_i _ 0]
      by_cases d4 : l.length = 0
      · obtain rfl : l = [] := List.eq_nil_of_length_eq_zero d4
        cases (x1 == 0) <;> cases noVal v <;> cases free x2 <;> cases (x3.toList == ([] : List UInt8)) <;> cases free x3 <;> rfl
      · rw [decide_eq_false d4]; simp
    rw [if_neg c4, if_neg c4]
    by_cases c5 : x0 = 15
    · subst c5
      rw [if_pos rfl, if_pos rfl]
      change (x1 == 0 && (noVal v && _)) = _
      rw [show ((l.length : Int) == 1) = decide (l.length = 1) from len_i _ 1]
      have en : (strs4.any fun y => x2.toList == y.toList) = (x2.toList == [45] || (x2.toList == [110, 111, 116] || (x2.toList == [105, 115, 110, 117, 108, 108] || x2.toList == [105, 115, 110, 111, 116, 110, 117, 108, 108]))) := by
        simp [strs4, toList_mk]
      rw [en]
      generalize (x2.toList == [45] || (x2.toList == [110, 111, 116] || (x2.toList == [105, 115, 110, 117, 108, 108] || x2.toList == [105, 115, 110, 111, 116, 110, 117, 108, 108]))) = q
      by_cases d4 : l.length = 1
      · obtain ⟨y, rfl⟩ := List.length_eq_one_iff.mp d4
        cases (x1 == 0) <;> cases noVal v <;> cases (x3.toList == ([] : List UInt8)) <;> cases q <;> simp
      · rw [decide_eq_false d4]; simp
    rw [if_neg c5, if_neg c5]
    by_cases c6 : x0 = 16
    · subst c6
      rw [if_pos rfl, if_pos rfl]
      change (x1 == 0 && (noVal v && _)) = _
      rw [show ((l.length : Int) == 2) = decide (l.length = 2) from len_i _ 2]
      generalize decide (lvl x2.toList > 0) = q
      by_cases d4 : l.length = 2
      · obtain ⟨y, z, rfl⟩ : ∃ y z, l = [y, z] := by
          match l, d4 with
          | [y, z], _ => exact ⟨y, z, rfl⟩
        cases (x1 == 0) <;> cases noVal v <;> cases (x3.toList == ([] : List UInt8)) <;> cases q <;> simp
      · rw [decide_eq_false d4]; simp
    rw [if_neg c6, if_neg c6]
    by_cases c7 : ¬ x0 = 17
    · rw [if_neg c7, if_neg c7, Bool.and_false]
    replace c7 := Classical.not_not.mp c7
    subst c7
    rw [if_pos rfl, if_pos rfl]
    change (a && (x1 == 0 && (noVal v && _))) = _
    rw [show ((l.length : Int) == 1) = decide (l.length = 1) from len_i _ 1, show ((l.length : Int) == 0) = decide (l.length = 0) from len_i _ 0]
    have en : (aggs4.any fun y => x2.toList == y.toList) = (x2.toList == [99, 111, 117, 110, 116] || (x2.toList == [115, 117, 109] || (x2.toList == [109, 105, 110] || x2.toList == [109, 97, 120]))) := by
      simp [aggs4, toList_mk]
    rw [en]
    generalize (x2.toList == [99, 111, 117, 110, 116] || (x2.toList == [115, 117, 109] || (x2.toList == [109, 105, 110] || x2.toList == [109, 97, 120]))) = q
    by_cases d4 : l.length = 1
    · obtain ⟨y, rfl⟩ := List.length_eq_one_iff.mp d4
      cases a <;> cases (x1 == 0) <;> cases noVal v <;> cases (x3.toList == ([] : List UInt8)) <;> cases q <;> simp
    · rw [decide_eq_false d4]
      by_cases d5 : l.length = 0
      · obtain rfl : l = [] := List.eq_nil_of_length_eq_zero d5
        cases a <;> cases (x1 == 0) <;> cases noVal v <;> cases (x3.toList == ([] : List UInt8)) <;> cases q <;> simp
      · rw [decide_eq_false d5, if_neg d4, if_neg d5]; simp
theorem spec_ev (n : Nat) (x : S33) (h : gt n x) (a : Bool) : Ev (fun k => spec_l10Expr.f k x.f0 x.f1 x.f2 x.f3 x.f4.f0 x.f4.f1 x.f4.f2 x.f5 a) (ex n x a) :=
  ⟨1048651 + n, fun k hk => by
    unfold spec_l10Expr.f
    rw [eta_t]
    exact spec_t n x h a k (by omega)⟩
end Go.Proofs.YtnpgnjehndgofaaDoor.Pure
end

section
/- Expressions that cannot fail. -/
namespace Go.Proofs.YtnpgnjehndgofaaDoor.Pure
open Go.RowKit Go.Proofs.YtnpgnjehndgofaaDoor.X Go.Proofs.YtnpgnjehndgofaaDoorW.PrintWords Go.Proofs.YtnpgnjehndgofaaDoorW.PrintLast
def bad (x0 : Int) (x2 : ByteArray) : Bool := if x0 = 17 then true else if x0 = 15 then x2.toList == ([45] : List UInt8) else if x0 = 16 then decide (lvl x2.toList > 4) else false
def safe : Nat → S33 → Bool
  | 0, _ => false
  | n + 1, x => !bad x.f0 x.f2 && x.f5.all (safe n)
theorem isSafe_u (k : Nat) (hk : 16 ≤ k) (x0 : Int) (x2 : ByteArray) : impl_isSafe.u k x0 x2 = some (bad x0 x2) := by
  unfold impl_isSafe.u bad
  rw [impl_lvl k hk, Option.bind_some]
  split
  · rfl
  split
  · rfl
  split <;> rfl
theorem isSafe_t : ∀ n (x : S33), gt n x → ∀ k, 16 + n < k → impl_isSafe.t k x = some (safe n x)
  | 0, _, h, _, _ => h.elim
  | n + 1, x, h, 0, hk => absurd hk (Nat.not_lt_zero _)
  | n + 1, x, h, k + 1, hk => by
    rw [impl_isSafe.t, isSafe_u k (by omega), Option.bind_some, safe, anyM_mk (fun y => !safe n y) fun y hy => by rw [isSafe_t n y (h.2.2.2.2 y hy) k (by omega)]; rfl]
    cases bad x.f0 x.f2
    · rw [if_neg (by decide), Option.bind_some, Bool.not_false, Bool.true_and]
      congr 1
      rw [Bool.eq_iff_iff]
      simp
    · rfl
theorem isSafe_ev (n : Nat) (x : S33) (h : gt n x) : Ev (fun k => impl_isSafe.f k x.f0 x.f1 x.f2 x.f3 x.f4.f0 x.f4.f1 x.f4.f2 x.f5) (safe n x) :=
  ⟨17 + n, fun k hk => by
    unfold impl_isSafe.f
    rw [eta_t]
    exact isSafe_t n x h k (by omega)⟩
theorem sf_loop (q : S33 → Bool) (a0 a1 : Int) (a2 a3 : ByteArray) (a4 a5 : Int) (a6 : ByteArray) (l : List S33) (hl : l.length ≤ 1048576)
    (h : ∀ y ∈ l, Ev (fun k => spec_l14Safe.f k y.f0 y.f1 y.f2 y.f3 y.f4.f0 y.f4.f1 y.f4.f2 y.f5) (q y)) :
    ∀ d i, i + d = l.length → Ev (fun k => spec_l14Safe.l0 k (i : Int) a0 a1 a2 a3 a4 a5 a6 l) ((l.drop i).all q)
  | 0, i, hd => by
    have e : l.drop i = [] := List.drop_eq_nil_of_le (by omega)
    rw [e]
    exact Ev.step (f := fun _ => some true) (fun k => by rw [spec_l14Safe.l0, if_neg (by omega)]) (Ev.now _)
  | d + 1, i, hd => by
    have hlt : i < l.length := by omega
    rw [List.drop_eq_getElem_cons hlt, List.all_cons]
    refine Ev.step (f := fun k => (spec_l14Safe.f k l[i].f0 l[i].f1 l[i].f2 l[i].f3 l[i].f4.f0 l[i].f4.f1 l[i].f4.f2 l[i].f5).bind fun t => if t = true then spec_l14Safe.l0 k ((i + 1 : Nat) : Int) a0 a1 a2 a3 a4 a5 a6 l else some false)
      (fun k => by rw [spec_l14Safe.l0, if_pos (by omega), if_pos (by omega), rdIt l i hlt, next64 i l.length hlt (by simp only [maxLen]; omega)]) ?_
    refine Ev.bind (h _ (List.getElem_mem hlt)) ?_
    cases q l[i]
    · exact Ev.congr (fun k => if_neg (by decide)) (Ev.now _)
    · exact Ev.congr (fun k => if_pos rfl) (sf_loop q a0 a1 a2 a3 a4 a5 a6 l hl h d (i + 1) (by omega))
theorem l14_head (k : Nat) (hk : 2 ≤ k) (x0 x1 : Int) (x2 x3 : ByteArray) (v0 v1 : Int) (v2 : ByteArray) (l : List S33) :
    spec_l14Safe.f (k + 1) x0 x1 x2 x3 v0 v1 v2 l = spec_l14Safe.j0 k (bad x0 x2) x0 x1 x2 x3 v0 v1 v2 l := by
  rw [spec_l14Safe.f]
  unfold bad
  by_cases c5 : x0 = 15
  · subst c5
    by_cases c : x2.toList = [45]
    · simp [c]
    · have cb : (x2.toList == ([45] : List UInt8)) = false := beq_eq_false_iff_ne.mpr c
      simp [c, cb]
  rw [if_neg c5, if_neg c5]
  by_cases c6 : x0 = 16
  · subst c6
    rw [if_pos rfl, spec_lvl k hk, Option.bind_some]
    by_cases c : lvl x2.toList > 4
    · simp [c]
    · rw [if_neg c]; simp [c]
  rw [if_neg c6, if_neg c6]
  by_cases c7 : x0 = 17
  · subst c7; rfl
  · rw [if_neg c7, beq_eq_false_iff_ne.mpr c7]
theorem l14_ev : ∀ n (x : S33), gt n x → Ev (fun k => spec_l14Safe.f k x.f0 x.f1 x.f2 x.f3 x.f4.f0 x.f4.f1 x.f4.f2 x.f5) (safe n x)
  | 0, _, h => h.elim
  | n + 1, x, h => by
    obtain ⟨K, loop⟩ := sf_loop (safe n) x.f0 x.f1 x.f2 x.f3 x.f4.f0 x.f4.f1 x.f4.f2 x.f5 h.2.2.2.1 (fun y hy => l14_ev n y (h.2.2.2.2 y hy)) x.f5.length 0 (by omega)
    rw [List.drop_zero] at loop
    refine ⟨K + 4, fun k hk => ?_⟩
    obtain ⟨j, rfl⟩ : ∃ j, k = j + 2 := ⟨k - 2, by omega⟩
    show spec_l14Safe.f (j + 1 + 1) _ _ _ _ _ _ _ _ = _
    rw [l14_head (j + 1) (by omega), spec_l14Safe.j0, safe]
    cases bad x.f0 x.f2
    · rw [if_neg (by decide), Bool.not_false, Bool.true_and]; exact loop j (by omega)
    · rfl
end Go.Proofs.YtnpgnjehndgofaaDoor.Pure
end

section
/-
  DERIVED. GIVEN WITH THE SEED: THE PROGRAM's TIES (one call each: nine closed facts by the kernel) AND EACH ROW's TIE, after the 31st guide's Derived/Test/Toyas{Tie, Card}.lean. No idea stands in it: it is a product of the set-up. Laid BY PROGRAM, IN A SANDBOX (cutbox-door.mjs). By AI agents, Wed Nov 11 2026. No macro, syntax, notation, axiom, sorry.
-/
namespace Go.Proofs.YtnpgnjehndgofaaDoor
open Go
set_option maxRecDepth 100000
theorem seatTie1 : Tryd.prog.laidByTextLater [("unicode/utf8.acceptRanges", Rows.laid_unicode_utf8_acceptRanges)] [.data] true :=
  Program.laidByTextLater_by_one 19 8 33 (by kernel_rfl) (by kernel_rfl) (by kernel_rfl) (by kernel_rfl) (by kernel_rfl) (by kernel_rfl) (fun _ _ => by kernel_rfl)
theorem pin_laid_unicode_utf8_first : Tryd.pinned.checked.prog.pinnedFits "unicode/utf8.first" = true := by kernel_rfl
theorem noOwnUnsafe : Tryd.pinned.checked.prog.headLifts.contains "ownunsafe" = false := by kernel_rfl
theorem fits1 : Tryd.pinned.checked.prog.listedFits [("unicode/utf8.acceptRanges", Rows.laid_unicode_utf8_acceptRanges), ("unicode/utf8.first", Rows.laid_unicode_utf8_first)] = true := by
  unfold Program.listedFits
  rw [noOwnUnsafe]
  kernel_rfl
theorem tie : Tryd.prog.laidByTextLater [("unicode/utf8.acceptRanges", Rows.laid_unicode_utf8_acceptRanges)] [.data] true :=
  Program.laidByTextLater.sub seatTie1 ["unicode/utf8.acceptRanges"] (by kernel_rfl) (by kernel_rfl)
theorem fnExactSafeExpr_row_tie : Rows.fnExactSafeExprRow.laidByTextAt .later Tryd.pinned [.data, .pinned] true :=
  OpenClaim.laidByTextAt_pinned rfl rfl tie rfl rfl rfl rfl (fun y hy _e => by
    simp only [Rows.fnExactSafeExprRow, List.zip_cons_cons, List.zip_nil_right, List.mem_cons, List.mem_nil_iff, or_false] at hy
    rcases hy with rfl | rfl
    · cases _e
    · exact ⟨pin_laid_unicode_utf8_first, by kernel_rfl⟩) fits1
theorem fnExactGrouped_row_tie : Rows.fnExactGroupedRow.laidByTextAt .later Tryd.pinned [.data, .pinned] true :=
  OpenClaim.laidByTextAt_pinned rfl rfl tie rfl rfl rfl rfl (fun y hy _e => by
    simp only [Rows.fnExactGroupedRow, List.zip_cons_cons, List.zip_nil_right, List.mem_cons, List.mem_nil_iff, or_false] at hy
    rcases hy with rfl | rfl
    · cases _e
    · exact ⟨pin_laid_unicode_utf8_first, by kernel_rfl⟩) fits1
theorem fnExactSqlOK_row_tie : Rows.fnExactSqlOKRow.laidByTextAt .later Tryd.pinned [.data, .pinned] true :=
  OpenClaim.laidByTextAt_pinned rfl rfl tie rfl rfl rfl rfl (fun y hy _e => by
    simp only [Rows.fnExactSqlOKRow, List.zip_cons_cons, List.zip_nil_right, List.mem_cons, List.mem_nil_iff, or_false] at hy
    rcases hy with rfl | rfl
    · cases _e
    · exact ⟨pin_laid_unicode_utf8_first, by kernel_rfl⟩) fits1
theorem fnExactTypeOf_row_tie : Rows.fnExactTypeOfRow.laidByTextAt .later Tryd.pinned [.data, .pinned] true :=
  OpenClaim.laidByTextAt_pinned rfl rfl tie rfl rfl rfl rfl (fun y hy _e => by
    simp only [Rows.fnExactTypeOfRow, List.zip_cons_cons, List.zip_nil_right, List.mem_cons, List.mem_nil_iff, or_false] at hy
    rcases hy with rfl | rfl
    · cases _e
    · exact ⟨pin_laid_unicode_utf8_first, by kernel_rfl⟩) fits1
theorem fnExactSafeExprUpto_row_tie : Rows.fnExactSafeExprUptoRow.laidByTextAt .later Tryd.pinned [.data, .pinned] true :=
  OpenClaim.laidByTextAt_pinned rfl rfl tie rfl rfl rfl rfl (fun y hy _e => by
    simp only [Rows.fnExactSafeExprUptoRow, List.zip_cons_cons, List.zip_nil_right, List.mem_cons, List.mem_nil_iff, or_false] at hy
    rcases hy with rfl | rfl
    · cases _e
    · exact ⟨pin_laid_unicode_utf8_first, by kernel_rfl⟩) fits1
theorem fnExactGroupedUpto_row_tie : Rows.fnExactGroupedUptoRow.laidByTextAt .later Tryd.pinned [.data, .pinned] true :=
  OpenClaim.laidByTextAt_pinned rfl rfl tie rfl rfl rfl rfl (fun y hy _e => by
    simp only [Rows.fnExactGroupedUptoRow, List.zip_cons_cons, List.zip_nil_right, List.mem_cons, List.mem_nil_iff, or_false] at hy
    rcases hy with rfl | rfl
    · cases _e
    · exact ⟨pin_laid_unicode_utf8_first, by kernel_rfl⟩) fits1
theorem fnExactSqlOKUpto_row_tie : Rows.fnExactSqlOKUptoRow.laidByTextAt .later Tryd.pinned [.data, .pinned] true :=
  OpenClaim.laidByTextAt_pinned rfl rfl tie rfl rfl rfl rfl (fun y hy _e => by
    simp only [Rows.fnExactSqlOKUptoRow, List.zip_cons_cons, List.zip_nil_right, List.mem_cons, List.mem_nil_iff, or_false] at hy
    rcases hy with rfl | rfl
    · cases _e
    · exact ⟨pin_laid_unicode_utf8_first, by kernel_rfl⟩) fits1
theorem fnExactTypeOfUpto_row_tie : Rows.fnExactTypeOfUptoRow.laidByTextAt .later Tryd.pinned [.data, .pinned] true :=
  OpenClaim.laidByTextAt_pinned rfl rfl tie rfl rfl rfl rfl (fun y hy _e => by
    simp only [Rows.fnExactTypeOfUptoRow, List.zip_cons_cons, List.zip_nil_right, List.mem_cons, List.mem_nil_iff, or_false] at hy
    rcases hy with rfl | rfl
    · cases _e
    · exact ⟨pin_laid_unicode_utf8_first, by kernel_rfl⟩) fits1
end Go.Proofs.YtnpgnjehndgofaaDoor
end

section
/-
  DERIVED. GIVEN WITH THE SEED: THE CARDS: each row of YtnpgnjehndgofaaDoorRows.lean that lists a variable, with what it lists TIED to the program's text (the seventh form; the later family's looks); each row that meets fmt, with fmt's text TOLD by the authors' own Lean function (tested against real Go, not proved from fmt's source: count such statements apart). THE CARD IS WHAT COUNTS. Prove the row's statement (the work); the ties are given (YtnpgnjehndgofaaDoorTie.lean); close each card by the builder's one call (the guide's Derived/Test/ToyasCard.lean, 'card_holds'). Laid BY PROGRAM, IN A SANDBOX (cutbox-door.mjs). By AI agents, Wed Nov 11 2026. No macro, syntax, notation, axiom, sorry.
-/
namespace Go.Proofs.YtnpgnjehndgofaaDoor
namespace Rows

def fnExactSafeExprCard : Claim7 := { stood := { row := fnExactSafeExprRow, standIns := [], harness := (true, "75d7573a4414ce5363e7fc75e117c905ee32245a81a8684c3538d58762b4ffe9"), looks := false }, kinds := [], alts := [], laidByText := true, laidKinds := [.data, .pinned], laidTests := true, laidLooks := .later }
def FnExactSafeExprCardSaid : Prop := Claim7.holds Tryd.pinned (.plain (OpenSpec.ofChange fnExactSafeExprSpec)) fnExactSafeExprCard

def fnExactGroupedCard : Claim7 := { stood := { row := fnExactGroupedRow, standIns := [], harness := (true, "75d7573a4414ce5363e7fc75e117c905ee32245a81a8684c3538d58762b4ffe9"), looks := false }, kinds := [], alts := [], laidByText := true, laidKinds := [.data, .pinned], laidTests := true, laidLooks := .later }
def FnExactGroupedCardSaid : Prop := Claim7.holds Tryd.pinned (.plain (OpenSpec.ofChange fnExactGroupedSpec)) fnExactGroupedCard

def fnExactSqlOKCard : Claim7 := { stood := { row := fnExactSqlOKRow, standIns := [], harness := (true, "75d7573a4414ce5363e7fc75e117c905ee32245a81a8684c3538d58762b4ffe9"), looks := false }, kinds := [], alts := [], laidByText := true, laidKinds := [.data, .pinned], laidTests := true, laidLooks := .later }
def FnExactSqlOKCardSaid : Prop := Claim7.holds Tryd.pinned (.plain (OpenSpec.ofChange fnExactSqlOKSpec)) fnExactSqlOKCard

def fnExactTypeOfCard : Claim7 := { stood := { row := fnExactTypeOfRow, standIns := [], harness := (true, "75d7573a4414ce5363e7fc75e117c905ee32245a81a8684c3538d58762b4ffe9"), looks := false }, kinds := [], alts := [], laidByText := true, laidKinds := [.data, .pinned], laidTests := true, laidLooks := .later }
def FnExactTypeOfCardSaid : Prop := Claim7.holds Tryd.pinned (.plain (OpenSpec.ofChange fnExactTypeOfSpec)) fnExactTypeOfCard

def fnExactSafeExprUptoCard : Claim7 := { stood := { row := fnExactSafeExprUptoRow, standIns := [], harness := (true, "75d7573a4414ce5363e7fc75e117c905ee32245a81a8684c3538d58762b4ffe9"), looks := false }, kinds := [], alts := [], laidByText := true, laidKinds := [.data, .pinned], laidTests := true, laidLooks := .later }
def FnExactSafeExprUptoCardSaid : Prop := Claim7.holds Tryd.pinned (.plain (OpenSpec.upto fnExactSafeExprSpec)) fnExactSafeExprUptoCard

def fnExactGroupedUptoCard : Claim7 := { stood := { row := fnExactGroupedUptoRow, standIns := [], harness := (true, "75d7573a4414ce5363e7fc75e117c905ee32245a81a8684c3538d58762b4ffe9"), looks := false }, kinds := [], alts := [], laidByText := true, laidKinds := [.data, .pinned], laidTests := true, laidLooks := .later }
def FnExactGroupedUptoCardSaid : Prop := Claim7.holds Tryd.pinned (.plain (OpenSpec.upto fnExactGroupedSpec)) fnExactGroupedUptoCard

def fnExactSqlOKUptoCard : Claim7 := { stood := { row := fnExactSqlOKUptoRow, standIns := [], harness := (true, "75d7573a4414ce5363e7fc75e117c905ee32245a81a8684c3538d58762b4ffe9"), looks := false }, kinds := [], alts := [], laidByText := true, laidKinds := [.data, .pinned], laidTests := true, laidLooks := .later }
def FnExactSqlOKUptoCardSaid : Prop := Claim7.holds Tryd.pinned (.plain (OpenSpec.upto fnExactSqlOKSpec)) fnExactSqlOKUptoCard

def fnExactTypeOfUptoCard : Claim7 := { stood := { row := fnExactTypeOfUptoRow, standIns := [], harness := (true, "75d7573a4414ce5363e7fc75e117c905ee32245a81a8684c3538d58762b4ffe9"), looks := false }, kinds := [], alts := [], laidByText := true, laidKinds := [.data, .pinned], laidTests := true, laidLooks := .later }
def FnExactTypeOfUptoCardSaid : Prop := Claim7.holds Tryd.pinned (.plain (OpenSpec.upto fnExactTypeOfSpec)) fnExactTypeOfUptoCard
end Rows
end Go.Proofs.YtnpgnjehndgofaaDoor
end
