/- The program's test whether an expression cannot fail answers as the reference's: both bound a tree alike, test its nodes alike and look for the same nodes. -/
import Derived.Test.YtnpgnjehndgofaaDoorYFnExactSafeExpr15
namespace Go.Proofs.YtnpgnjehndgofaaDoor.Pure
open Go.RowKit Go.Proofs.YtnpgnjehndgofaaDoor.X Go.Proofs.YtnpgnjehndgofaaDoorW.PrintWords Go.Proofs.YtnpgnjehndgofaaDoorW.PrintLast
set_option linter.unusedVariables false
set_option linter.unusedSimpArgs false
theorem QU_mono : ∀ n (x : S26), QU26 n x → QU26 (n + 1) x
  | 0, _, h => h.elim
  | n + 1, x, h => ⟨h.1, h.2.1, h.2.2.1, h.2.2.2.1, h.2.2.2.2.1, h.2.2.2.2.2.1, fun y hy => QU_mono n y (h.2.2.2.2.2.2 y hy)⟩
theorem QU_le {n m : Nat} (h : n ≤ m) (x : S26) (hx : QU26 n x) : QU26 m x := by
  induction h with
  | refl => exact hx
  | step _ ih => exact QU_mono _ x ih
theorem QU_list : ∀ (l : List S26), (∀ y ∈ l, Q26 y) → ∃ n, ∀ y ∈ l, QU26 n y
  | [], _ => ⟨0, fun y hy => by cases hy⟩
  | a :: l, h => by
    obtain ⟨n, hn⟩ := QU_list l fun y hy => h y (List.mem_cons_of_mem _ hy)
    obtain ⟨m, hm⟩ := h a List.mem_cons_self
    refine ⟨max n m, fun y hy => ?_⟩
    rcases List.mem_cons.mp hy with rfl | hy
    · exact QU_le (by omega) _ hm
    · exact QU_le (by omega) _ (hn y hy)
theorem spec_safe (n : Nat) (x : S33) (h : gt n x) : Ev (fun k => spec_SafeExpr.f k x.f0 x.f1 x.f2 x.f3 x.f4.f0 x.f4.f1 x.f4.f2 x.f5) (if (bnd n x && ex n x true) = true then (safe n x, 0) else (false, 1)) := by
  obtain ⟨r, e, hr⟩ := left_bnd n x h
  unfold spec_SafeExpr.f
  have e2 : Ev (fun k => spec_l11ExprOK.f k x.f0 x.f1 x.f2 x.f3 x.f4.f0 x.f4.f1 x.f4.f2 x.f5) (bnd n x && ex n x true) := by
    unfold spec_l11ExprOK.f
    refine Ev.bind e ?_
    cases hb : bnd n x
    · exact Ev.congr (fun k => if_neg (by rw [hr, hb]; decide)) (Ev.now _)
    · exact Ev.congr (fun k => if_pos (hr.mpr hb)) (Ev.bind (spec_ev n x h true) (Ev.now _))
  refine Ev.bind e2 ?_
  cases bnd n x && ex n x true
  · exact Ev.congr (fun k => if_neg (by decide)) (Ev.now _)
  · exact Ev.congr (fun k => if_pos rfl) (Ev.bind (l14_ev n x h) (Ev.now _))
theorem impl_safe (n : Nat) (x : S33) (h : gt n x) (hs : szt n x ≤ 2097153) : Ev (fun k => impl_SafeExpr.f k x.f0 x.f1 x.f2 x.f3 x.f4.f0 x.f4.f1 x.f4.f2 x.f5) (if (bnd n x && ex n x true) = true then (safe n x, 0) else (false, 1)) := by
  unfold impl_SafeExpr.f
  have e2 : Ev (fun k => impl_isExpr.f k x.f0 x.f1 x.f2 x.f3 x.f4.f0 x.f4.f1 x.f4.f2 x.f5) (bnd n x && ex n x true) := by
    unfold impl_isExpr.f
    refine Ev.bind (bounded_ev n x h hs) ?_
    cases bnd n x
    · exact Ev.congr (fun k => if_neg (by decide)) (Ev.now _)
    · exact Ev.congr (fun k => if_pos rfl) (Ev.bind (exprOK_ev n x h true) (Ev.now _))
  refine Ev.bind e2 ?_
  cases bnd n x && ex n x true
  · exact Ev.congr (fun k => if_neg (by decide)) (Ev.now _)
  · exact Ev.congr (fun k => if_pos rfl) (Ev.bind (isSafe_ev n x h) (Ev.now _))
theorem FnExactSafeExpr : laws_FnExactSafeExpr.Need := by
  intro a0 a1 a2 a3 a4 a5 a6 l h0 h1 h2 h3 h4 h5 h6 hl
  obtain ⟨n0, hn⟩ := QU_list l hl.2
  have hx : QU26 (n0 + 1) ⟨a0, a1, a2, a3, ⟨a4, a5, a6⟩, l⟩ := ⟨h0, h1, h2, h3, ⟨h4, h5, h6⟩, hl.1, hn⟩
  generalize n0 + 1 = n at hx
  have es := szTree_ev n _ hx 1048576 (by decide) (by decide)
  refine Ev.rounds (g := fun k => laws_FnExactSafeExpr.f k a0 a1 a2 a3 a4 a5 a6 l) (r := true) ?_
  unfold laws_FnExactSafeExpr.f
  refine Ev.bind es ?_
  by_cases c : left_ 1048576 (wt n ⟨a0, a1, a2, a3, ⟨a4, a5, a6⟩, l⟩) < 0
  · exact Ev.congr (fun k => if_pos c) (Ev.now _)
  refine Ev.congr (fun k => if_neg c) ?_
  have hw : wt n ⟨a0, a1, a2, a3, ⟨a4, a5, a6⟩, l⟩ ≤ 1048576 := by rw [left_neg] at c; omega
  have et := toTree_ev n _ hx hw
  have hg := gt_cvt n _ hx hw
  have hs := szt_le n ⟨a0, a1, a2, a3, ⟨a4, a5, a6⟩, l⟩
  generalize cvt n ⟨a0, a1, a2, a3, ⟨a4, a5, a6⟩, l⟩ = y at et hg hs
  have e1 := spec_safe n y hg
  have e2 := impl_safe n y hg (by omega)
  generalize (if (bnd n y && ex n y true) = true then (safe n y, (0 : Int)) else (false, 1)) = r at e1 e2
  refine Ev.bind et (Ev.bind e1 (Ev.bind et (Ev.bind e2 ?_)))
  refine Ev.congr (fun k => if_neg (by simp)) ?_
  rw [show (r.2 != r.2) = false by simp]
  refine Ev.step (f := fun k => (laws_toTree.f k a0 a1 a2 a3 a4 a5 a6 l).bind fun b => (laws_eqTree.f k y.f0 y.f1 y.f2 y.f3 y.f4.f0 y.f4.f1 y.f4.f2 y.f5 b.1 b.2.1 b.2.2.1 b.2.2.2.1 b.2.2.2.2.1 b.2.2.2.2.2.1 b.2.2.2.2.2.2.1 b.2.2.2.2.2.2.2).bind fun t => if t = true then some true else none) (fun k => ?_) ?_
  · rw [laws_FnExactSafeExpr.j0, if_neg (by decide)]
  · exact Ev.bind et (Ev.bind (eqTree_ev n y hg) (Ev.congr (fun k => if_pos rfl) (Ev.now _)))
end Go.Proofs.YtnpgnjehndgofaaDoor.Pure
