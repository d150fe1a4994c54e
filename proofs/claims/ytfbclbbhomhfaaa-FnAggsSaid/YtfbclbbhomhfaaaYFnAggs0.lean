/- Contracts of functions, and what is told of them. -/
import Derived.Test.YtfbclbbhomhfaaaProg
import Derived.Below
import Derived.Deep.Draws
import Derived.Deep.AppendLies
import Derived.Maps.AppendAt
import Derived.OwnWalk
import Derived.Laws.BytesArg
import Derived.Laws.MakeOwn
import Derived.Laws.OwnMore
import Derived.Deep.OwnRows
import Derived.Tactics
import Derived.Lib.ConvBytes
import Derived.Laws.Slices
import Derived.WalkKit
import Derived.KernelRfl
import Derived.RowKit3
import Derived.Deep.LoopGhost
import Derived.Deep.QuietTactic
import Derived.BigQuiet
import Derived.WideLaws
import Derived.Deep.DeepCutAuto
import Derived.Deep.CutBlock
import Derived.Deep.RegionHeld3
import Derived.Laws.Rows
import Derived.Lib.AppendStr
import Derived.ArgAppend
import Derived.Laws.IdiomCopy
import Derived.OrdersHeld
import Derived.Laws.BitsLemmas
import Derived.RowKit
import Derived.Test.YtfbclbbhomhfaaaWWords
import Derived.Test.YtfbclbbhomhfaaaWLast
import Derived.Test.YtfbclbbhomhfaaaWTab
import Derived.Test.YtfbclbbhomhfaaaWFour
import Derived.Test.YtfbclbbhomhfaaaWQPut
import Derived.Test.YtfbclbbhomhfaaaWApart
import Derived.Test.YtfbclbbhomhfaaaWArr
import Derived.Test.YtfbclbbhomhfaaaWZeros
import Derived.Test.YtfbclbbhomhfaaaWFoot
import Derived.Test.YtfbclbbhomhfaaaWKept
import Derived.Test.YtfbclbbhomhfaaaWShare
import Derived.Test.YtfbclbbhomhfaaaWN
import Derived.Test.YtfbclbbhomhfaaaWFootNe
import Derived.Test.YtfbclbbhomhfaaaWAt
import Derived.Test.YtfbclbbhomhfaaaWEqStruct
import Derived.Test.YtfbclbbhomhfaaaWRepsOne
import Derived.Test.YtfbclbbhomhfaaaWInv
import Derived.Test.YtfbclbbhomhfaaaWInvWords
import Derived.Test.YtfbclbbhomhfaaaWGuard
import Derived.Test.YtfbclbbhomhfaaaWNEv
import Derived.Test.YtfbclbbhomhfaaaWMore
import Derived.Deep.Slices
import Derived.ChangeArms
import Derived.BigRegion
import Derived.IntWalk
set_option linter.unusedSimpArgs false
set_option linter.unusedVariables false
set_option maxHeartbeats 8000000
set_option maxRecDepth 100000
section
namespace Go.Proofs.Ytfbclbbhomhfaaa.X
open Go.RowKit Go.Proofs.YtfbclbbhomhfaaaW.PrintWords Go.Proofs.YtfbclbbhomhfaaaW.PrintLast Go.Proofs.YtfbclbbhomhfaaaW.PrintMore

section
theorem ak_ {P : Prop} (h : P) : Aside0 P := ⟨h⟩
theorem cz_ {P Q : Prop} (h : Q) (k : Q → P := by intro h; repeat (first | exact h | (with_reducible refine Kd.C_alloc ?_ _) | (with_reducible refine Kd.C_drewN ?_ _) | (with_reducible refine Kd.C_drew ?_))) : P := k h
theorem sz1_ {α : Type} (l : List α) (i : Nat) (a : α) : l.toArray.setIfInBounds i a = (l.set i a).toArray := by simp
theorem sz2_ {α : Type} (a b : α) (l : List α) : (a :: l).set 0 b = b :: l := rfl
theorem sz3_ {α : Type} (a b : α) (l : List α) (n : Nat) : (a :: l).set (n + 1) b = a :: l.set n b := rfl
theorem bcf3 {w : World} {g t : Nat} {v0 v1 v2 : Value} (h : w.heap[g]? = some (.cells #[v0, v1, v2] t (0, 0))) : w.cell? ⟨g, 0, none⟩ = some v0 ∧ w.cell? ⟨g, 1, none⟩ = some v1 ∧ w.cell? ⟨g, 2, none⟩ = some v2 ∧ w.frozen? ⟨g, 0, none⟩ = false ∧ w.frozen? ⟨g, 1, none⟩ = false ∧ w.frozen? ⟨g, 2, none⟩ = false := ⟨(blk_cell h 0).trans rfl, (blk_cell h 1).trans rfl, (blk_cell h 2).trans rfl, blk_frozen h 0, blk_frozen h 1, blk_frozen h 2⟩
theorem bc3 {w : World} {g t : Nat} {v0 v1 v2 : Value} (h : w.heap[g]? = some (.cells #[v0, v1, v2] t (0, 0))) : w.cell? ⟨g, 0, none⟩ = some v0 ∧ w.cell? ⟨g, 1, none⟩ = some v1 ∧ w.cell? ⟨g, 2, none⟩ = some v2 := ⟨(blk_cell h 0).trans rfl, (blk_cell h 1).trans rfl, (blk_cell h 2).trans rfl⟩
theorem a2_ {P0 P1 : Prop} (h0 : P0) (h1 : P1) : Aside0 P0 ∧ Aside0 P1 := ⟨⟨h0⟩, ⟨h1⟩⟩
theorem a3_ {P0 P1 P2 : Prop} (h0 : P0) (h1 : P1) (h2 : P2) : Aside0 P0 ∧ Aside0 P1 ∧ Aside0 P2 := ⟨⟨h0⟩, ⟨h1⟩, ⟨h2⟩⟩
theorem a4_ {P0 P1 P2 P3 : Prop} (h0 : P0) (h1 : P1) (h2 : P2) (h3 : P3) : Aside0 P0 ∧ Aside0 P1 ∧ Aside0 P2 ∧ Aside0 P3 := ⟨⟨h0⟩, ⟨h1⟩, ⟨h2⟩, ⟨h3⟩⟩
theorem a5_ {P0 P1 P2 P3 P4 : Prop} (h0 : P0) (h1 : P1) (h2 : P2) (h3 : P3) (h4 : P4) : Aside0 P0 ∧ Aside0 P1 ∧ Aside0 P2 ∧ Aside0 P3 ∧ Aside0 P4 := ⟨⟨h0⟩, ⟨h1⟩, ⟨h2⟩, ⟨h3⟩, ⟨h4⟩⟩
theorem a6_ {P0 P1 P2 P3 P4 P5 : Prop} (h0 : P0) (h1 : P1) (h2 : P2) (h3 : P3) (h4 : P4) (h5 : P5) : Aside0 P0 ∧ Aside0 P1 ∧ Aside0 P2 ∧ Aside0 P3 ∧ Aside0 P4 ∧ Aside0 P5 := ⟨⟨h0⟩, ⟨h1⟩, ⟨h2⟩, ⟨h3⟩, ⟨h4⟩, ⟨h5⟩⟩
theorem a7_ {P0 P1 P2 P3 P4 P5 P6 : Prop} (h0 : P0) (h1 : P1) (h2 : P2) (h3 : P3) (h4 : P4) (h5 : P5) (h6 : P6) : Aside0 P0 ∧ Aside0 P1 ∧ Aside0 P2 ∧ Aside0 P3 ∧ Aside0 P4 ∧ Aside0 P5 ∧ Aside0 P6 := ⟨⟨h0⟩, ⟨h1⟩, ⟨h2⟩, ⟨h3⟩, ⟨h4⟩, ⟨h5⟩, ⟨h6⟩⟩
theorem a8_ {P0 P1 P2 P3 P4 P5 P6 P7 : Prop} (h0 : P0) (h1 : P1) (h2 : P2) (h3 : P3) (h4 : P4) (h5 : P5) (h6 : P6) (h7 : P7) : Aside0 P0 ∧ Aside0 P1 ∧ Aside0 P2 ∧ Aside0 P3 ∧ Aside0 P4 ∧ Aside0 P5 ∧ Aside0 P6 ∧ Aside0 P7 := ⟨⟨h0⟩, ⟨h1⟩, ⟨h2⟩, ⟨h3⟩, ⟨h4⟩, ⟨h5⟩, ⟨h6⟩, ⟨h7⟩⟩
theorem a9_ {P0 P1 P2 P3 P4 P5 P6 P7 P8 : Prop} (h0 : P0) (h1 : P1) (h2 : P2) (h3 : P3) (h4 : P4) (h5 : P5) (h6 : P6) (h7 : P7) (h8 : P8) : Aside0 P0 ∧ Aside0 P1 ∧ Aside0 P2 ∧ Aside0 P3 ∧ Aside0 P4 ∧ Aside0 P5 ∧ Aside0 P6 ∧ Aside0 P7 ∧ Aside0 P8 := ⟨⟨h0⟩, ⟨h1⟩, ⟨h2⟩, ⟨h3⟩, ⟨h4⟩, ⟨h5⟩, ⟨h6⟩, ⟨h7⟩, ⟨h8⟩⟩
theorem a10_ {P0 P1 P2 P3 P4 P5 P6 P7 P8 P9 : Prop} (h0 : P0) (h1 : P1) (h2 : P2) (h3 : P3) (h4 : P4) (h5 : P5) (h6 : P6) (h7 : P7) (h8 : P8) (h9 : P9) : Aside0 P0 ∧ Aside0 P1 ∧ Aside0 P2 ∧ Aside0 P3 ∧ Aside0 P4 ∧ Aside0 P5 ∧ Aside0 P6 ∧ Aside0 P7 ∧ Aside0 P8 ∧ Aside0 P9 := ⟨⟨h0⟩, ⟨h1⟩, ⟨h2⟩, ⟨h3⟩, ⟨h4⟩, ⟨h5⟩, ⟨h6⟩, ⟨h7⟩, ⟨h8⟩, ⟨h9⟩⟩
theorem a12_ {P0 P1 P2 P3 P4 P5 P6 P7 P8 P9 P10 P11 : Prop} (h0 : P0) (h1 : P1) (h2 : P2) (h3 : P3) (h4 : P4) (h5 : P5) (h6 : P6) (h7 : P7) (h8 : P8) (h9 : P9) (h10 : P10) (h11 : P11) : Aside0 P0 ∧ Aside0 P1 ∧ Aside0 P2 ∧ Aside0 P3 ∧ Aside0 P4 ∧ Aside0 P5 ∧ Aside0 P6 ∧ Aside0 P7 ∧ Aside0 P8 ∧ Aside0 P9 ∧ Aside0 P10 ∧ Aside0 P11 := ⟨⟨h0⟩, ⟨h1⟩, ⟨h2⟩, ⟨h3⟩, ⟨h4⟩, ⟨h5⟩, ⟨h6⟩, ⟨h7⟩, ⟨h8⟩, ⟨h9⟩, ⟨h10⟩, ⟨h11⟩⟩
theorem a13_ {P0 P1 P2 P3 P4 P5 P6 P7 P8 P9 P10 P11 P12 : Prop} (h0 : P0) (h1 : P1) (h2 : P2) (h3 : P3) (h4 : P4) (h5 : P5) (h6 : P6) (h7 : P7) (h8 : P8) (h9 : P9) (h10 : P10) (h11 : P11) (h12 : P12) : Aside0 P0 ∧ Aside0 P1 ∧ Aside0 P2 ∧ Aside0 P3 ∧ Aside0 P4 ∧ Aside0 P5 ∧ Aside0 P6 ∧ Aside0 P7 ∧ Aside0 P8 ∧ Aside0 P9 ∧ Aside0 P10 ∧ Aside0 P11 ∧ Aside0 P12 := ⟨⟨h0⟩, ⟨h1⟩, ⟨h2⟩, ⟨h3⟩, ⟨h4⟩, ⟨h5⟩, ⟨h6⟩, ⟨h7⟩, ⟨h8⟩, ⟨h9⟩, ⟨h10⟩, ⟨h11⟩, ⟨h12⟩⟩
theorem gs_ (w : World) {W : World} {g : Nat} (hg : g = W.heap.size) (h : w.heap.size ≤ W.heap.size) : w.heap.size ≤ g := by rw [hg]; exact h
theorem oc_ {w W : World} {a : Addr} {v : Value} (hb : Below w.heap.size w W) (h : w.cell? a = some v) : W.cell? a = some v := (hb.cell (World.block_lt_of_cell? w _ h)).trans h
theorem bx_ {P : Program} {ops : Array Oper} {rest : List Oper} {o : Oper} {a : Act} {Q : Exit → Act → World → Prop} {W : World} (N : Tmp) {cs : Array Value} {t : TypeId} (hd : o.dst = some N := by exact rfl) (hg : o.guard = none := by exact rfl)
    (hr : (execOp a.eval o).run P W = .ok (.value (.pointer (some ⟨W.heap.size, 0, none⟩))) (W.alloc (.cells cs t (0, 0))) := by first | (go_simp; done) | (go_simp; rfl))
    (h_ : ∀ g, g = W.heap.size → ∀ w1, w1.heap[g]? = some (.cells cs t (0, 0)) → Below W.heap.size W w1 → wpList P ops Q rest (a.put o.dst (.pointer (some ⟨g, 0, none⟩))) w1) : wpList P ops Q (o :: rest) a W :=
  box_event hg hd hr h_
theorem pu_ {P : Program} {ops : Array Oper} {Q : Exit → Act → World → Prop} {md : Region.Mode} {S : World → Prop} {ds : List Nat} (i : Nat) {N : Option Tmp} {oi : Oper} {v : Value} {fuel : Nat} {l : Array Bool} {a : Act} {w : World} {T : Bool × List (List Nat × List Nat)} (l' : Array Bool) (hT : rtab md ops = T) (hi : ops[i]? = some oi := by exact rfl) (hN : oi.dst = N := by exact rfl)
    (hc : anyT T l.toList l'.toList i = true := by kernel_rfl) (hQ : ∀ c a w, Q (.panic c) (a.put oi.dst v) w → Q (.panic c) a w := by exact fun _ _ _ h => h) (hw : Region.wanted oi (yielded ops a.tmps) = true := by rfl)
    (hy : ∀ w, (execOp a.eval oi).run P w = .ok (.value v) w := by intro w'; go_simp; with_reducible rfl) {a' : Act} (ha : a.put N v = a' := by (simp only [Act.put, List.setIfInBounds_toArray, List.set_cons_zero, List.set_cons_succ, i64_w, i32_w]; rfl))
    (h_ : wpAnyLast P md ops Q S ds fuel l' a' w) : wpAnyLast P md ops Q S ds (fuel + 1) l a w :=
  pure_ l' hi hN (any_of hT hc) hQ (Or.inl ⟨hw, hy⟩) ha h_
theorem pv_ {P : Program} {ops : Array Oper} {Q : Exit → Act → World → Prop} {md : Region.Mode} {S : World → Prop} {ds : List Nat} (i : Nat) {N : Option Tmp} {oi : Oper} {v : Value} {fuel : Nat} {l : Array Bool} {a : Act} {w : World} {T : Bool × List (List Nat × List Nat)} (l' : Array Bool) (hT : rtab md ops = T) (hy : ∀ w, (execOp a.eval oi).run P w = .ok (.value v) w) {a' : Act} (ha : a.put N v = a')
    (h_ : wpAnyLast P md ops Q S ds fuel l' a' w) (hi : ops[i]? = some oi := by exact rfl) (hN : oi.dst = N := by exact rfl) (hc : anyT T l.toList l'.toList i = true := by kernel_rfl) (hQ : ∀ c a w, Q (.panic c) (a.put oi.dst v) w → Q (.panic c) a w := by exact fun _ _ _ h => h) (hw : Region.wanted oi (yielded ops a.tmps) = true := by rfl) : wpAnyLast P md ops Q S ds (fuel + 1) l a w :=
  pure_ l' hi hN (any_of hT hc) hQ (Or.inl ⟨hw, hy⟩) ha h_
theorem tk_ {P : Program} {ops : Array Oper} {Q : Exit → Act → World → Prop} {md : Region.Mode} {S : World → Prop} {ds : List Nat} (i : Nat) {N : Option Tmp} {oi : Oper} {v : Value} {fuel : Nat} {l : Array Bool} {a : Act} {w : World} {T : Bool × List (List Nat × List Nat)} {B : List Nat} (l' : Array Bool) (hT : rtab md ops = T) (hB : waitsOk T.2 B = true) (hS : S w)
    {a' : Act} (hi : ops[i]? = some oi := by exact rfl) (hN : oi.dst = N := by exact rfl) (hy : ∀ w, S w → (execOp a.eval oi).run P w = .ok (.value v) w) (hc : takeW T B ds l.toList l'.toList i = true := by kernel_rfl) (hQ : ∀ c a w, Q (.panic c) (a.put oi.dst v) w → Q (.panic c) a w := by exact fun _ _ _ h => h) (hw : Region.wanted oi (yielded ops a.tmps) = true := by rfl)
    (ha : a.put N v = a' := by (simp only [Act.put, List.setIfInBounds_toArray, List.set_cons_zero, List.set_cons_succ, i64_w, i32_w]; rfl))
    (h_ : wpAnyLast P md ops Q S ds fuel l' a' w) : wpAnyLast P md ops Q S ds (fuel + 1) l a w :=
  take_ l' hi hN (take_ofW hT hB hc) hQ (Or.inl ⟨hw, hy⟩) hS ha h_
theorem z0_ {P : Prop} (h : P := by repeat (first | (with_reducible first | exact HB.out | apply below_alloc | apply pw_below_drewN | apply below_drew1) | exact HB.out)) : P := h
theorem z1_ {P : Prop} (h : P := by repeat (first | (with_reducible first | exact HB.out | apply below_alloc | apply pw_below_drewN | apply below_drew1 | refine below_set ?_ GE101.out) | exact HB.out)) : P := h
theorem z2_ {P : Prop} (h : P := by (with_reducible repeat (first | refine blk_drewN ?_ _ | refine blk_drew ?_ | refine blk_alloc ?_ _)); exact BK101.out) : P := h
theorem z3_ {P : Prop} (h : P := by (try simp only [List.map_toArray, List.map_cons, List.map_nil]); first | done | rfl | (simp only [List.length_drop, List.length_take]; rfl)) : P := h
theorem z4_ {P : Prop} (h : P := by repeat (first | (with_reducible first | exact HB.out | apply below_alloc | apply pw_below_drewN | apply below_drew1 | refine below_set ?_ GE112.out) | exact HB.out)) : P := h
theorem z5_ {P : Prop} (h : P := by repeat (first | (with_reducible first | exact HB.out | apply below_alloc | apply pw_below_drewN | apply below_drew1 | refine below_set ?_ GE101.out | refine below_set ?_ GE102.out) | exact HB.out)) : P := h
theorem z6_ {P : Prop} (h : P := by (with_reducible repeat (first | refine blk_drewN ?_ _ | refine blk_drew ?_ | refine blk_alloc ?_ _)); refine blk_put (cs := #[.int .i64 0, .int .i64 0, .string ((rd_T24 (rd_L4 t101 x8_2) 0).f2)]) ?_ 2 _ rfl; (with_reducible repeat (first | refine blk_drewN ?_ _ | refine blk_drew ?_ | refine blk_alloc ?_ _)); refine blk_put (cs := #[.int .i64 0, .int .i64 ((rd_T24 (rd_L4 t101 x8_2) 0).f1), .string ((rd_T24 (rd_L4 t101 x8_2) 0).f2)]) ?_ 1 _ rfl; (with_reducible repeat (first | refine blk_drewN ?_ _ | refine blk_drew ?_ | refine blk_alloc ?_ _)); refine blk_put (cs := #[.int .i64 ((rd_T24 (rd_L4 t101 x8_2) 0).f0), .int .i64 ((rd_T24 (rd_L4 t101 x8_2) 0).f1), .string ((rd_T24 (rd_L4 t101 x8_2) 0).f2)]) ?_ 0 _ rfl; (with_reducible repeat (first | refine blk_drewN ?_ _ | refine blk_drew ?_ | refine blk_alloc ?_ _)); exact BK112.out) : P := h
theorem z7_ {P : Prop} (h : P := by (with_reducible repeat (first | refine blk_drewN ?_ _ | refine blk_drew ?_ | refine blk_alloc ?_ _)); refine blk_put (cs := #[.int .i64 ((rd_T24 (rd_L4 t101 x8_2) 0).f0), .int .i64 ((rd_T24 (rd_L4 t101 x8_2) 0).f1), .string (⟨#[]⟩ : ByteArray)]) ?_ 2 _ rfl; (with_reducible repeat (first | refine blk_drewN ?_ _ | refine blk_drew ?_ | refine blk_alloc ?_ _)); refine blk_put (cs := #[.int .i64 ((rd_T24 (rd_L4 t101 x8_2) 0).f0), .int .i64 0, .string (⟨#[]⟩ : ByteArray)]) ?_ 1 _ rfl; (with_reducible repeat (first | refine blk_drewN ?_ _ | refine blk_drew ?_ | refine blk_alloc ?_ _)); refine blk_put (cs := #[.int .i64 0, .int .i64 0, .string (⟨#[]⟩ : ByteArray)]) ?_ 0 _ rfl; (with_reducible repeat (first | refine blk_drewN ?_ _ | refine blk_drew ?_ | refine blk_alloc ?_ _)); exact BK112.out) : P := h
theorem z8_ {P : Prop} (h : P := by repeat (first | (with_reducible first | exact HK.out | apply KeepBut.set_ | apply keep_drewN | apply keep_drew | apply keep_alloc) | exact HK.out)) : P := h
theorem z9_ {P : Prop} (h : P := by (with_reducible repeat (first | refine blk_drewN ?_ _ | refine blk_drew ?_ | refine blk_alloc ?_ _)); refine blk_put (cs := #[.int .i64 0, .int .i64 0, .string (⟨#[]⟩ : ByteArray)]) ?_ 2 _ rfl; (with_reducible repeat (first | refine blk_drewN ?_ _ | refine blk_drew ?_ | refine blk_alloc ?_ _)); refine blk_put (cs := #[.int .i64 0, .int .i64 0, .string (⟨#[]⟩ : ByteArray)]) ?_ 1 _ rfl; (with_reducible repeat (first | refine blk_drewN ?_ _ | refine blk_drew ?_ | refine blk_alloc ?_ _)); refine blk_put (cs := #[.int .i64 0, .int .i64 0, .string (⟨#[]⟩ : ByteArray)]) ?_ 0 _ rfl; (with_reducible repeat (first | refine blk_drewN ?_ _ | refine blk_drew ?_ | refine blk_alloc ?_ _)); exact BK101.out) : P := h
theorem z10_ {P : Prop} (h : P := by first | rfl | (simp [errW_none, errW_some] <;> rfl) | (simp [*, errW_none, errW_some] <;> rfl)) : P := h
theorem z11_ {P : Prop} (h : P := by first | (with_reducible assumption) | assumption) : P := h
theorem z12_ {P : Prop} (h : P := by first | rfl | (simp; done) | (simp [*]; done)) : P := h
theorem z13_ {P : Prop} (h : P := by (with_reducible repeat (first | refine blk_drewN ?_ _ | refine blk_drew ?_ | refine blk_alloc ?_ _)); exact BK102.out) : P := h
theorem z14_ {P : Prop} (h : P := by (with_reducible repeat (first | apply Kd.R_alloc | apply Kd.R_drewN | apply Kd.R_drew)); exact HO_7.out) : P := h
theorem z15_ {P : Prop} (h : P := by repeat (first | (with_reducible first | exact HB.out | apply below_alloc | apply pw_below_drewN | apply below_drew1 | refine below_set ?_ (IsS66.ge HI0.out)) | exact HB.out)) : P := h
theorem z16_ {P : Prop} (h : P := by repeat (first | (with_reducible first | exact HI0.out | apply IsS66.alloc | apply IsS66.drewN | apply IsS66.drew | apply IsS66.set_1 | apply IsS66.set_2) | exact HI0.out)) : P := h
theorem z17_ {P : Prop} (h : P := by repeat (first | (with_reducible first | exact HK.out | apply KeepBut.set_ | apply keep_drewN | apply keep_drew | apply keep_alloc | refine keep_far ?_ GW101.out _) | exact HK.out)) : P := h
theorem z18_ {P : Prop} (h : P := by repeat (first | (with_reducible first | exact HB.out | apply below_alloc | apply pw_below_drewN | apply below_drew1 | refine below_set ?_ GE101.out | refine below_set ?_ GE102.out | refine below_set ?_ GE107.out) | exact HB.out)) : P := h
theorem z19_ {P : Prop} (h : P := by (with_reducible repeat (first | refine blk_drewN ?_ _ | refine blk_drew ?_ | refine blk_alloc ?_ _)); exact BK112.out) : P := h
theorem z20_ {P : Prop} (h : P := by (with_reducible repeat (first | apply Kd.R_alloc | apply Kd.R_drewN | apply Kd.R_drew)); exact Kd.R_mono (Kd.R_far (p := ⟨gb112, 2, none⟩) (Kd.R_far (p := ⟨gb112, 1, none⟩) (Kd.R_far (p := ⟨gb112, 0, none⟩) (Kd.R_mono HO_6.out (fun k_ hk => (⟨hk, hk.2⟩ : _ ∧ k_ ≠ gb112))) (fun _ hk => hk.2) (.int .i64 ((rd_T24 (rd_L4 t101 x8_2) 0).f0))) (fun _ hk => hk.2) (.int .i64 ((rd_T24 (rd_L4 t101 x8_2) 0).f1))) (fun _ hk => hk.2) (.string ((rd_T24 (rd_L4 t101 x8_2) 0).f2))) (fun _ hk => ⟨hk.1.1, hk.1.2⟩)) : P := h
theorem z21_ {P : Prop} (h : P := by (with_reducible repeat (first | apply Kd.R_alloc | apply Kd.R_drewN | apply Kd.R_drew)); exact HL110_0.out) : P := h
theorem z22_ {P : Prop} (h : P := by (with_reducible repeat (first | apply Kd.R_alloc | apply Kd.R_drewN | apply Kd.R_drew)); exact HO_6.out) : P := h
theorem z23_ {P : Prop} (h : P := by (with_reducible repeat (first | refine blk_drewN ?_ _ | refine blk_drew ?_ | refine blk_alloc ?_ _)); refine blk_far ?_ NB101_107.out _; (with_reducible repeat (first | refine blk_drewN ?_ _ | refine blk_drew ?_ | refine blk_alloc ?_ _)); refine blk_far ?_ NB101_107.out _; (with_reducible repeat (first | refine blk_drewN ?_ _ | refine blk_drew ?_ | refine blk_alloc ?_ _)); refine blk_far ?_ NB101_107.out _; (with_reducible repeat (first | refine blk_drewN ?_ _ | refine blk_drew ?_ | refine blk_alloc ?_ _)); exact BK101.out) : P := h
theorem z24_ {P : Prop} (h : P := by (with_reducible repeat (first | refine blk_drewN ?_ _ | refine blk_drew ?_ | refine blk_alloc ?_ _)); refine blk_far ?_ NB102_107.out _; (with_reducible repeat (first | refine blk_drewN ?_ _ | refine blk_drew ?_ | refine blk_alloc ?_ _)); refine blk_far ?_ NB102_107.out _; (with_reducible repeat (first | refine blk_drewN ?_ _ | refine blk_drew ?_ | refine blk_alloc ?_ _)); refine blk_far ?_ NB102_107.out _; (with_reducible repeat (first | refine blk_drewN ?_ _ | refine blk_drew ?_ | refine blk_alloc ?_ _)); exact BK102.out) : P := h
theorem z25_ {P : Prop} (h : P := by repeat (first | (with_reducible exact HR110_0.out) | (with_reducible refine Kd.C_alloc ?_ _) | (with_reducible refine Kd.C_drewN ?_ _) | (with_reducible refine Kd.C_drew ?_) | exact HR110_0.out)) : P := h
theorem z26_ {P : Prop} (h : P := by repeat (first | exact Drawn0.refl _ | apply Drawn0.step)) : P := h
theorem z27_ {P : Prop} (h : P := by (with_reducible repeat (first | refine blk_drewN ?_ _ | refine blk_drew ?_ | refine blk_alloc ?_ _)); refine blk_put (cs := #[.int .i64 ((rd_T24 l1 x8_1).f0), .int .i64 ((rd_T24 l1 x8_1).f1), .string x103002_1]) ?_ 2 _ rfl; (with_reducible repeat (first | refine blk_drewN ?_ _ | refine blk_drew ?_ | refine blk_alloc ?_ _)); refine blk_put (cs := #[.int .i64 ((rd_T24 l1 x8_1).f0), .int .i64 x103001_1, .string x103002_1]) ?_ 1 _ rfl; (with_reducible repeat (first | refine blk_drewN ?_ _ | refine blk_drew ?_ | refine blk_alloc ?_ _)); refine blk_put (cs := #[.int .i64 x103000_1, .int .i64 x103001_1, .string x103002_1]) ?_ 0 _ rfl; (with_reducible repeat (first | refine blk_drewN ?_ _ | refine blk_drew ?_ | refine blk_alloc ?_ _)); refine blk_far ?_ NB102_107.out _; (with_reducible repeat (first | refine blk_drewN ?_ _ | refine blk_drew ?_ | refine blk_alloc ?_ _)); refine blk_far ?_ NB102_107.out _; (with_reducible repeat (first | refine blk_drewN ?_ _ | refine blk_drew ?_ | refine blk_alloc ?_ _)); refine blk_far ?_ NB102_107.out _; (with_reducible repeat (first | refine blk_drewN ?_ _ | refine blk_drew ?_ | refine blk_alloc ?_ _)); exact BK102.out) : P := h
theorem z28_ {P : Prop} (h : P := by (with_reducible repeat (first | refine blk_drewN ?_ _ | refine blk_drew ?_ | refine blk_alloc ?_ _)); refine blk_put (cs := #[.int .i64 ((rd_T24 l1 x8_1).f0), .int .i64 ((rd_T24 l1 x8_1).f1), .string (⟨#[]⟩ : ByteArray)]) ?_ 2 _ rfl; (with_reducible repeat (first | refine blk_drewN ?_ _ | refine blk_drew ?_ | refine blk_alloc ?_ _)); refine blk_put (cs := #[.int .i64 ((rd_T24 l1 x8_1).f0), .int .i64 0, .string (⟨#[]⟩ : ByteArray)]) ?_ 1 _ rfl; (with_reducible repeat (first | refine blk_drewN ?_ _ | refine blk_drew ?_ | refine blk_alloc ?_ _)); refine blk_put (cs := #[.int .i64 0, .int .i64 0, .string (⟨#[]⟩ : ByteArray)]) ?_ 0 _ rfl; (with_reducible repeat (first | refine blk_drewN ?_ _ | refine blk_drew ?_ | refine blk_alloc ?_ _)); exact BK107.out) : P := h
theorem z29_ {P : Prop} (h : P := by rw [hw]; exact (by (with_reducible repeat (first | apply Kd.R_alloc | apply Kd.R_drewN | apply Kd.R_drew)); exact Kd.R_mono (Kd.R_far (p := ⟨gb112, 2, none⟩) (Kd.R_far (p := ⟨gb112, 1, none⟩) (Kd.R_far (p := ⟨gb112, 0, none⟩) (Kd.R_mono HL110_0.out (fun k_ hk => (⟨hk, hk.2⟩ : _ ∧ k_ ≠ gb112))) (fun _ hk => hk.2) (.int .i64 ((rd_T24 (rd_L4 t101 x8_2) 0).f0))) (fun _ hk => hk.2) (.int .i64 ((rd_T24 (rd_L4 t101 x8_2) 0).f1))) (fun _ hk => hk.2) (.string ((rd_T24 (rd_L4 t101 x8_2) 0).f2))) (fun _ hk => ⟨hk.1.1.2, ⟨hk.1.1.1.1, ⟨hk.1.1.1.2, hk.1.2⟩⟩⟩))) : P := h
theorem z30_ {P : Prop} (h : P := by rw [hw]; exact (by (with_reducible repeat (first | apply Kd.S_alloc | apply Kd.S_drewN | apply Kd.S_drew)); exact Kd.S_mono (Kd.S_far (p := ⟨gb112, 2, none⟩) (Kd.S_far (p := ⟨gb112, 1, none⟩) (Kd.S_far (p := ⟨gb112, 0, none⟩) (Kd.S_mono HO_5.out (fun k_ hk => (⟨hk, hk.2⟩ : _ ∧ k_ ≠ gb112))) (fun _ hk => hk.2) (.int .i64 ((rd_T24 (rd_L4 t101 x8_2) 0).f0))) (fun _ hk => hk.2) (.int .i64 ((rd_T24 (rd_L4 t101 x8_2) 0).f1))) (fun _ hk => hk.2) (.string ((rd_T24 (rd_L4 t101 x8_2) 0).f2))) (fun _ hk => ⟨hk.1.1.1, ⟨hk.1.1.2, hk.1.2⟩⟩))) : P := h
theorem z31_ {P : Prop} (h : P := by rw [hw]; exact (by (with_reducible repeat (first | apply Kd.R_alloc | apply Kd.R_drewN | apply Kd.R_drew)); exact Kd.R_mono (Kd.R_far (p := ⟨gb112, 2, none⟩) (Kd.R_far (p := ⟨gb112, 1, none⟩) (Kd.R_far (p := ⟨gb112, 0, none⟩) (Kd.R_mono HO_7.out (fun k_ hk => (⟨hk, hk.2⟩ : _ ∧ k_ ≠ gb112))) (fun _ hk => hk.2) (.int .i64 ((rd_T24 (rd_L4 t101 x8_2) 0).f0))) (fun _ hk => hk.2) (.int .i64 ((rd_T24 (rd_L4 t101 x8_2) 0).f1))) (fun _ hk => hk.2) (.string ((rd_T24 (rd_L4 t101 x8_2) 0).f2))) (fun _ hk => ⟨hk.1.1, hk.1.2⟩))) : P := h
theorem z32_ {P : Prop} (h : P := by (with_reducible repeat (first | refine blk_drewN ?_ _ | refine blk_drew ?_ | refine blk_alloc ?_ _)); refine blk_far ?_ NB101_102.out _; (with_reducible repeat (first | refine blk_drewN ?_ _ | refine blk_drew ?_ | refine blk_alloc ?_ _)); refine blk_far ?_ NB101_102.out _; (with_reducible repeat (first | refine blk_drewN ?_ _ | refine blk_drew ?_ | refine blk_alloc ?_ _)); refine blk_far ?_ NB101_102.out _; (with_reducible repeat (first | refine blk_drewN ?_ _ | refine blk_drew ?_ | refine blk_alloc ?_ _)); refine blk_far ?_ NB101_107.out _; (with_reducible repeat (first | refine blk_drewN ?_ _ | refine blk_drew ?_ | refine blk_alloc ?_ _)); refine blk_far ?_ NB101_107.out _; (with_reducible repeat (first | refine blk_drewN ?_ _ | refine blk_drew ?_ | refine blk_alloc ?_ _)); refine blk_far ?_ NB101_107.out _; (with_reducible repeat (first | refine blk_drewN ?_ _ | refine blk_drew ?_ | refine blk_alloc ?_ _)); exact BK101.out) : P := h
theorem z33_ {P : Prop} (h : P := by (with_reducible repeat (first | apply Kd.R_alloc | apply Kd.R_drewN | apply Kd.R_drew)); exact Kd.R_mono (Kd.R_far (p := ⟨gb112, 2, none⟩) (Kd.R_far (p := ⟨gb112, 1, none⟩) (Kd.R_far (p := ⟨gb112, 0, none⟩) (Kd.R_mono HL110_0.out (fun k_ hk => (⟨hk, hk.2.2.2⟩ : _ ∧ k_ ≠ gb112))) (fun _ hk => hk.2) (.int .i64 0)) (fun _ hk => hk.2) (.int .i64 0)) (fun _ hk => hk.2) (.string (⟨#[]⟩ : ByteArray))) (fun _ hk => ⟨⟨hk.1.1, ⟨hk.1.2.2.1, hk.1.2.2.2⟩⟩, hk.1.2.1⟩)) : P := h
theorem z34_ {P : Prop} (h : P := by (with_reducible repeat (first | apply Kd.S_alloc | apply Kd.S_drewN | apply Kd.S_drew)); exact Kd.S_mono (Kd.S_far (p := ⟨gb112, 2, none⟩) (Kd.S_far (p := ⟨gb112, 1, none⟩) (Kd.S_far (p := ⟨gb112, 0, none⟩) (Kd.S_mono HO_5.out (fun k_ hk => (⟨hk, hk.2.2⟩ : _ ∧ k_ ≠ gb112))) (fun _ hk => hk.2) (.int .i64 0)) (fun _ hk => hk.2) (.int .i64 0)) (fun _ hk => hk.2) (.string (⟨#[]⟩ : ByteArray))) (fun _ hk => ⟨⟨hk.1.2.1, hk.1.2.2⟩, hk.1.1⟩)) : P := h
theorem z35_ {P : Prop} (h : P := by (with_reducible repeat (first | apply Kd.R_alloc | apply Kd.R_drewN | apply Kd.R_drew)); exact Kd.R_mono (Kd.R_far (p := ⟨gb112, 2, none⟩) (Kd.R_far (p := ⟨gb112, 1, none⟩) (Kd.R_far (p := ⟨gb112, 0, none⟩) (Kd.R_mono HO_6.out (fun k_ hk => (⟨hk, hk.2⟩ : _ ∧ k_ ≠ gb112))) (fun _ hk => hk.2) (.int .i64 0)) (fun _ hk => hk.2) (.int .i64 0)) (fun _ hk => hk.2) (.string (⟨#[]⟩ : ByteArray))) (fun _ hk => ⟨hk.1.1, hk.1.2⟩)) : P := h
theorem z36_ {P : Prop} (h : P := by (with_reducible repeat (first | apply Kd.R_alloc | apply Kd.R_drewN | apply Kd.R_drew)); exact Kd.R_mono (Kd.R_far (p := ⟨gb112, 2, none⟩) (Kd.R_far (p := ⟨gb112, 1, none⟩) (Kd.R_far (p := ⟨gb112, 0, none⟩) (Kd.R_mono HO_7.out (fun k_ hk => (⟨hk, hk.2⟩ : _ ∧ k_ ≠ gb112))) (fun _ hk => hk.2) (.int .i64 0)) (fun _ hk => hk.2) (.int .i64 0)) (fun _ hk => hk.2) (.string (⟨#[]⟩ : ByteArray))) (fun _ hk => ⟨hk.1.2, hk.1.1⟩)) : P := h
theorem z37_ {P : Prop} (h : P := by (with_reducible repeat (first | apply Kd.R_alloc | apply Kd.R_drewN | apply Kd.R_drew)); exact (Kd.R_mono (Kd.R_far (p := ⟨gb112, 2, none⟩) (Kd.R_far (p := ⟨gb112, 1, none⟩) (Kd.R_far (p := ⟨gb112, 0, none⟩) (Kd.R_mono HO_7.out (fun k_ hk => (⟨hk, hk.2⟩ : _ ∧ k_ ≠ gb112))) (fun _ hk => hk.2) (.int .i64 0)) (fun _ hk => hk.2) (.int .i64 0)) (fun _ hk => hk.2) (.string (⟨#[]⟩ : ByteArray))) (fun _ h_ => h_.1))) : P := h
theorem z38_ {P : Prop} (h : P := by repeat (first | (with_reducible first | exact HI0.out | apply IsS66.alloc | apply IsS66.drewN | apply IsS66.drew | apply IsS66.set_1 | apply IsS66.set_2 | refine IsS66.far ?_ NB0_101.out _) | exact HI0.out)) : P := h
theorem z39_ {P : Prop} (h : P := by repeat (first | (with_reducible first | exact HB.out | apply below_alloc | apply pw_below_drewN | apply below_drew1 | refine below_set ?_ (IsS66.ge HI0.out) | refine below_set ?_ GE101.out) | exact HB.out)) : P := h
theorem z40_ {P : Prop} (h : P := by (with_reducible repeat (first | apply Kd.S_alloc | apply Kd.S_drewN | apply Kd.S_drew)); exact HO_5.out) : P := h
theorem z41_ {P : Prop} (h : P := by rw [hg]; exact Nat.ne_of_lt (blk_lt (g := gb102) (o := .cells #[.int .i64 x103000_1, .int .i64 x103001_1, .string x103002_1] 24 (0, 0)) z13_)) : P := h
theorem z42_ {P : Prop} (h : P := by rw [hg]; exact Nat.ne_of_gt (blk_lt (g := gb102) (o := .cells #[.int .i64 x103000_1, .int .i64 x103001_1, .string x103002_1] 24 (0, 0)) z13_)) : P := h
theorem z43_ {P : Prop} (h : P := by rw [hg]; exact Nat.ne_of_lt (blk_lt (g := gb101) (o := .cells #[.int .i64 x102000_1, .int .i64 x102001_1, .string x102002_1] 24 (0, 0)) z2_)) : P := h
theorem z44_ {P : Prop} (h : P := by rw [hg]; exact Nat.ne_of_gt (blk_lt (g := gb101) (o := .cells #[.int .i64 x102000_1, .int .i64 x102001_1, .string x102002_1] 24 (0, 0)) z2_)) : P := h
theorem z45_ {P : Prop} (h : P := by (with_reducible repeat (first | apply Kd.R_alloc | apply Kd.R_drewN | apply Kd.R_drew)); exact Kd.R_mono HL110_0.out (fun _ hk => ⟨⟨hk.1.1.1, ⟨hk.1.1.2.1, ⟨hk.1.2, hk.1.1.2.2⟩⟩⟩, hk.2⟩)) : P := h
theorem z46_ {P : Prop} (h : P := by (with_reducible repeat (first | refine blk_drewN ?_ _ | refine blk_drew ?_ | refine blk_alloc ?_ _)); refine blk_far ?_ NB101_106.out _; (with_reducible repeat (first | refine blk_drewN ?_ _ | refine blk_drew ?_ | refine blk_alloc ?_ _)); refine blk_far ?_ NB101_106.out _; (with_reducible repeat (first | refine blk_drewN ?_ _ | refine blk_drew ?_ | refine blk_alloc ?_ _)); refine blk_far ?_ NB101_106.out _; (with_reducible repeat (first | refine blk_drewN ?_ _ | refine blk_drew ?_ | refine blk_alloc ?_ _)); exact BK101.out) : P := h
theorem z47_ {P : Prop} (h : P := by (with_reducible repeat (first | refine blk_drewN ?_ _ | refine blk_drew ?_ | refine blk_alloc ?_ _)); refine blk_far ?_ NB101_102.out _; (with_reducible repeat (first | refine blk_drewN ?_ _ | refine blk_drew ?_ | refine blk_alloc ?_ _)); refine blk_far ?_ NB101_102.out _; (with_reducible repeat (first | refine blk_drewN ?_ _ | refine blk_drew ?_ | refine blk_alloc ?_ _)); refine blk_far ?_ NB101_102.out _; (with_reducible repeat (first | refine blk_drewN ?_ _ | refine blk_drew ?_ | refine blk_alloc ?_ _)); exact BK101.out) : P := h
theorem z48_ {P : Prop} (h : P := by (with_reducible repeat (first | apply Kd.S_alloc | apply Kd.S_drewN | apply Kd.S_drew)); exact Kd.S_mono HO_5.out (fun _ hk => ⟨⟨hk.1.1.1, ⟨hk.1.2, hk.1.1.2⟩⟩, hk.2⟩)) : P := h
theorem z49_ {P : Prop} (h : P := by (with_reducible repeat (first | apply Kd.R_alloc | apply Kd.R_drewN | apply Kd.R_drew)); exact Kd.R_mono HO_7.out (fun _ hk => ⟨⟨hk.1.2, hk.1.1⟩, hk.2⟩)) : P := h
theorem z50_ {P : Prop} (h : P := by (with_reducible repeat (first | apply Kd.R_alloc | apply Kd.R_drewN | apply Kd.R_drew)); exact HO_10.out) : P := h
theorem z51_ {P : Prop} (h : P := by (with_reducible repeat (first | refine blk_drewN ?_ _ | refine blk_drew ?_ | refine blk_alloc ?_ _)); refine blk_put (cs := #[.int .i64 ((rd_T24 l1 x17_1).f0), .int .i64 ((rd_T24 l1 x17_1).f1), .string (⟨#[]⟩ : ByteArray)]) ?_ 2 _ rfl; (with_reducible repeat (first | refine blk_drewN ?_ _ | refine blk_drew ?_ | refine blk_alloc ?_ _)); refine blk_put (cs := #[.int .i64 ((rd_T24 l1 x17_1).f0), .int .i64 0, .string (⟨#[]⟩ : ByteArray)]) ?_ 1 _ rfl; (with_reducible repeat (first | refine blk_drewN ?_ _ | refine blk_drew ?_ | refine blk_alloc ?_ _)); refine blk_put (cs := #[.int .i64 0, .int .i64 0, .string (⟨#[]⟩ : ByteArray)]) ?_ 0 _ rfl; (with_reducible repeat (first | refine blk_drewN ?_ _ | refine blk_drew ?_ | refine blk_alloc ?_ _)); exact BK106.out) : P := h
theorem z52_ {P : Prop} (h : P := by (with_reducible repeat (first | refine blk_drewN ?_ _ | refine blk_drew ?_ | refine blk_alloc ?_ _)); refine blk_put (cs := #[.int .i64 ((rd_T24 l1 x8_1).f0), .int .i64 ((rd_T24 l1 x8_1).f1), .string x103002_1]) ?_ 2 _ rfl; (with_reducible repeat (first | refine blk_drewN ?_ _ | refine blk_drew ?_ | refine blk_alloc ?_ _)); refine blk_put (cs := #[.int .i64 ((rd_T24 l1 x8_1).f0), .int .i64 x103001_1, .string x103002_1]) ?_ 1 _ rfl; (with_reducible repeat (first | refine blk_drewN ?_ _ | refine blk_drew ?_ | refine blk_alloc ?_ _)); refine blk_put (cs := #[.int .i64 x103000_1, .int .i64 x103001_1, .string x103002_1]) ?_ 0 _ rfl; (with_reducible repeat (first | refine blk_drewN ?_ _ | refine blk_drew ?_ | refine blk_alloc ?_ _)); exact BK102.out) : P := h
theorem z53_ {P : Prop} (h : P := by repeat (first | (with_reducible exact HR201.out) | (with_reducible refine Kd.C_alloc ?_ _) | (with_reducible refine Kd.C_drewN ?_ _) | (with_reducible refine Kd.C_drew ?_) | exact HR201.out)) : P := h
theorem z54_ {P : Prop} (h : P := by (with_reducible repeat (first | refine blk_drewN ?_ _ | refine blk_drew ?_ | refine blk_alloc ?_ _)); refine blk_put (cs := #[.int .i64 t111, .int .i64 t112, .string (⟨#[]⟩ : ByteArray)]) ?_ 2 _ rfl; (with_reducible repeat (first | refine blk_drewN ?_ _ | refine blk_drew ?_ | refine blk_alloc ?_ _)); refine blk_put (cs := #[.int .i64 t111, .int .i64 0, .string (⟨#[]⟩ : ByteArray)]) ?_ 1 _ rfl; (with_reducible repeat (first | refine blk_drewN ?_ _ | refine blk_drew ?_ | refine blk_alloc ?_ _)); refine blk_put (cs := #[.int .i64 0, .int .i64 0, .string (⟨#[]⟩ : ByteArray)]) ?_ 0 _ rfl; (with_reducible repeat (first | refine blk_drewN ?_ _ | refine blk_drew ?_ | refine blk_alloc ?_ _)); exact BK101.out) : P := h
theorem z55_ {P : Prop} (h : P := by repeat (first | (with_reducible first | exact HB.out | apply below_alloc | apply pw_below_drewN | apply below_drew1 | refine below_set ?_ GE101.out | refine below_set ?_ GE106.out) | exact HB.out)) : P := h
theorem z56_ {P : Prop} (h : P := by repeat (first | (with_reducible first | exact HB.out | apply below_alloc | apply pw_below_drewN | apply below_drew1 | refine below_set ?_ GE184.out | refine below_set ?_ GE190.out) | exact HB.out)) : P := h
theorem z57_ {P : Prop} (h : P := by repeat (first | (with_reducible first | exact HB.out | apply below_alloc | apply pw_below_drewN | apply below_drew1 | refine below_set ?_ GE206.out | refine below_set ?_ GE215.out) | exact HB.out)) : P := h
theorem z58_ {P : Prop} (h : P := by (with_reducible repeat (first | refine blk_drewN ?_ _ | refine blk_drew ?_ | refine blk_alloc ?_ _)); exact BK184.out) : P := h
theorem z59_ {P : Prop} (h : P := by (with_reducible repeat (first | refine blk_drewN ?_ _ | refine blk_drew ?_ | refine blk_alloc ?_ _)); exact BK206.out) : P := h
theorem z60_ {P : Prop} (h : P := by first | exact q110 | exact of_decide_eq_true z11_ | (have e_ := (Kd.S_reads' HO_5.out).1; omega)) : P := h
theorem z61_ {P : Prop} (h : P := by (with_reducible repeat (first | apply Kd.R_alloc | apply Kd.R_drewN | apply Kd.R_drew)); exact Kd.R_mono (Kd.R_far (p := ⟨gb112, 2, none⟩) (Kd.R_far (p := ⟨gb112, 1, none⟩) (Kd.R_far (p := ⟨gb112, 0, none⟩) (Kd.R_mono HL110_0.out (fun k_ hk => (⟨hk, hk.2⟩ : _ ∧ k_ ≠ gb112))) (fun _ hk => hk.2) (.int .i64 ((rd_T24 (rd_L4 t101 x8_2) 0).f0))) (fun _ hk => hk.2) (.int .i64 ((rd_T24 (rd_L4 t101 x8_2) 0).f1))) (fun _ hk => hk.2) (.string ((rd_T24 (rd_L4 t101 x8_2) 0).f2))) (fun _ hk => ⟨⟨hk.1.1.2, ⟨hk.1.1.1.2, hk.1.2⟩⟩, hk.1.1.1.1⟩)) : P := h
theorem z62_ {P : Prop} (h : P := by (with_reducible repeat (first | apply Kd.S_alloc | apply Kd.S_drewN | apply Kd.S_drew)); exact Kd.S_mono (Kd.S_far (p := ⟨gb112, 2, none⟩) (Kd.S_far (p := ⟨gb112, 1, none⟩) (Kd.S_far (p := ⟨gb112, 0, none⟩) (Kd.S_mono HO_5.out (fun k_ hk => (⟨hk, hk.2⟩ : _ ∧ k_ ≠ gb112))) (fun _ hk => hk.2) (.int .i64 ((rd_T24 (rd_L4 t101 x8_2) 0).f0))) (fun _ hk => hk.2) (.int .i64 ((rd_T24 (rd_L4 t101 x8_2) 0).f1))) (fun _ hk => hk.2) (.string ((rd_T24 (rd_L4 t101 x8_2) 0).f2))) (fun _ hk => ⟨⟨hk.1.1.2, hk.1.2⟩, hk.1.1.1⟩)) : P := h
theorem z63_ {P : Prop} (h : P := by (with_reducible repeat (first | apply Kd.R_alloc | apply Kd.R_drewN | apply Kd.R_drew)); exact HO108.out) : P := h
theorem z64_ {P : Prop} (h : P := by (with_reducible repeat (first | apply Kd.R_alloc | apply Kd.R_drewN | apply Kd.R_drew)); exact Kd.R_mono (Kd.R_far (p := ⟨gb112, 2, none⟩) (Kd.R_far (p := ⟨gb112, 1, none⟩) (Kd.R_far (p := ⟨gb112, 0, none⟩) (Kd.R_mono HO_7.out (fun k_ hk => (⟨hk, hk.2⟩ : _ ∧ k_ ≠ gb112))) (fun _ hk => hk.2) (.int .i64 ((rd_T24 (rd_L4 t101 x8_2) 0).f0))) (fun _ hk => hk.2) (.int .i64 ((rd_T24 (rd_L4 t101 x8_2) 0).f1))) (fun _ hk => hk.2) (.string ((rd_T24 (rd_L4 t101 x8_2) 0).f2))) (fun _ hk => ⟨hk.1.2, hk.1.1⟩)) : P := h
theorem z65_ {P : Prop} (h : P := by (with_reducible repeat (first | apply Kd.R_alloc | apply Kd.R_drewN | apply Kd.R_drew)); exact (Kd.R_mono (Kd.R_far (p := ⟨gb112, 2, none⟩) (Kd.R_far (p := ⟨gb112, 1, none⟩) (Kd.R_far (p := ⟨gb112, 0, none⟩) (Kd.R_mono HO_7.out (fun k_ hk => (⟨hk, hk.2⟩ : _ ∧ k_ ≠ gb112))) (fun _ hk => hk.2) (.int .i64 ((rd_T24 (rd_L4 t101 x8_2) 0).f0))) (fun _ hk => hk.2) (.int .i64 ((rd_T24 (rd_L4 t101 x8_2) 0).f1))) (fun _ hk => hk.2) (.string ((rd_T24 (rd_L4 t101 x8_2) 0).f2))) (fun _ h_ => h_.1))) : P := h
theorem z66_ {P : Prop} (h : P := by repeat (first | (with_reducible first | exact HB.out | apply below_alloc | apply pw_below_drewN | apply below_drew1 | refine below_set ?_ GE184.out) | exact HB.out)) : P := h
theorem z67_ {P : Prop} (h : P := by repeat (first | (with_reducible first | exact HB.out | apply below_alloc | apply pw_below_drewN | apply below_drew1 | refine below_set ?_ GE206.out) | exact HB.out)) : P := h
theorem z68_ {P : Prop} (h : P := by (with_reducible repeat (first | apply Kd.S_alloc | apply Kd.S_drewN | apply Kd.S_drew)); exact HO103.out) : P := h
theorem z69_ {P : Prop} (h : P := by (with_reducible repeat (first | apply Kd.R_alloc | apply Kd.R_drewN | apply Kd.R_drew)); exact (Kd.R_mono (Kd.R_far (p := ⟨gb184, 2, none⟩) (Kd.R_far (p := ⟨gb184, 1, none⟩) (Kd.R_far (p := ⟨gb184, 0, none⟩) (Kd.R_mono HO_7.out (fun k_ hk => (⟨hk, hk.2⟩ : _ ∧ k_ ≠ gb184))) (fun _ hk => hk.2) (.int .i64 t180)) (fun _ hk => hk.2) (.int .i64 t181)) (fun _ hk => hk.2) (.string t182)) (fun _ h_ => h_.1))) : P := h
theorem z70_ {P : Prop} (h : P := by (with_reducible repeat (first | apply Kd.R_alloc | apply Kd.R_drewN | apply Kd.R_drew)); exact (Kd.R_mono (Kd.R_far (p := ⟨gb190, 2, none⟩) (Kd.R_far (p := ⟨gb190, 1, none⟩) (Kd.R_far (p := ⟨gb190, 0, none⟩) (Kd.R_mono HO_6.out (fun k_ hk => (⟨hk, hk.2⟩ : _ ∧ k_ ≠ gb190))) (fun _ hk => hk.2) (.int .i64 t186)) (fun _ hk => hk.2) (.int .i64 t187)) (fun _ hk => hk.2) (.string t188)) (fun _ h_ => h_.1))) : P := h
theorem z71_ {P : Prop} (h : P := by (with_reducible repeat (first | apply Kd.R_alloc | apply Kd.R_drewN | apply Kd.R_drew)); exact (Kd.R_mono (Kd.R_far (p := ⟨gb215, 2, none⟩) (Kd.R_far (p := ⟨gb215, 1, none⟩) (Kd.R_far (p := ⟨gb215, 0, none⟩) (Kd.R_mono HO_6.out (fun k_ hk => (⟨hk, hk.2⟩ : _ ∧ k_ ≠ gb215))) (fun _ hk => hk.2) (.int .i64 t211)) (fun _ hk => hk.2) (.int .i64 t212)) (fun _ hk => hk.2) (.string t213)) (fun _ h_ => h_.1))) : P := h
theorem z72_ {P : Prop} (h : P := by rw [hg]; exact Nat.ne_of_lt (blk_lt (g := gb101) (o := .cells #[.int .i64 a0_0, .int .i64 a0_1, .string a0_2] 24 (0, 0)) z2_)) : P := h
theorem z73_ {P : Prop} (h : P := by rw [hg]; exact Nat.ne_of_gt (blk_lt (g := gb101) (o := .cells #[.int .i64 a0_0, .int .i64 a0_1, .string a0_2] 24 (0, 0)) z2_)) : P := h
theorem z74_ {P : Prop} (h : P := by (with_reducible repeat (first | apply Kd.R_alloc | apply Kd.R_drewN | apply Kd.R_drew)); exact HO115.out) : P := h
theorem z75_ {P : Prop} (h : P := by (with_reducible repeat (first | apply Kd.R_alloc | apply Kd.R_drewN | apply Kd.R_drew)); exact HO124.out) : P := h
theorem z76_ {P : Prop} (h : P := by (with_reducible repeat (first | apply Kd.R_alloc | apply Kd.R_drewN | apply Kd.R_drew)); exact HO133.out) : P := h
theorem z77_ {P : Prop} (h : P := by (with_reducible repeat (first | apply Kd.R_alloc | apply Kd.R_drewN | apply Kd.R_drew)); exact HO169.out) : P := h
theorem z78_ {P : Prop} (h : P := by (with_reducible repeat (first | apply Kd.R_alloc | apply Kd.R_drewN | apply Kd.R_drew)); exact HO142.out) : P := h
theorem z79_ {P : Prop} (h : P := by (with_reducible repeat (first | apply Kd.R_alloc | apply Kd.R_drewN | apply Kd.R_drew)); exact HO160.out) : P := h
theorem z80_ {P : Prop} (h : P := by (with_reducible repeat (first | apply Kd.R_alloc | apply Kd.R_drewN | apply Kd.R_drew)); exact HO151.out) : P := h
theorem z81_ {P : Prop} (h : P := by rw [hg]; exact (keep_size (w := w) (g := g) (row := none) z8_)) : P := h
theorem z82_ {P : Prop} (h : P := by rw [hg]; exact Nat.ne_of_lt (blk_lt (g := gb101) (o := .cells #[.int .i64 0, .int .i64 0, .string (⟨#[]⟩ : ByteArray)] 24 (0, 0)) z2_)) : P := h
theorem z83_ {P : Prop} (h : P := by rw [hg]; exact Nat.ne_of_gt (blk_lt (g := gb101) (o := .cells #[.int .i64 0, .int .i64 0, .string (⟨#[]⟩ : ByteArray)] 24 (0, 0)) z2_)) : P := h
theorem z84_ {P : Prop} (h : P := by first | (go_simp; done) | (go_simp; rfl)) : P := h
theorem z85_ {P : Prop} (h : P := by first | (intro h_; have a_ := HO_10.out.1 _ h_.symm; simp at a_; done) | exact Kd.R_ne HO_10.out BK184.out (by decide)) : P := h
theorem z86_ {P : Prop} (h : P := by first | (intro h_; have a_ := HO_10.out.1 _ h_.symm; simp at a_; done) | exact Kd.R_ne HO_10.out BK190.out (by decide)) : P := h
theorem z87_ {P : Prop} (h : P := by (with_reducible repeat (first | refine blk_drewN ?_ _ | refine blk_drew ?_ | refine blk_alloc ?_ _)); exact BK190.out) : P := h
theorem z88_ {P : Prop} (h : P := by (with_reducible repeat (first | refine blk_drewN ?_ _ | refine blk_drew ?_ | refine blk_alloc ?_ _)); exact BK215.out) : P := h
theorem z89_ {P : Prop} (h : P := by (with_reducible repeat (first | apply Kd.R_alloc | apply Kd.R_drewN | apply Kd.R_drew)); exact HO103.out) : P := h
theorem z90_ {P : Prop} (h : P := by (with_reducible repeat (first | apply Kd.S_alloc | apply Kd.S_drewN | apply Kd.S_drew)); exact HO_3.out) : P := h
theorem z91_ {P : Prop} (h : P := by repeat (first | (with_reducible first | exact HB.out | apply below_alloc | apply pw_below_drewN | apply below_drew1 | refine below_set ?_ GE101.out | refine below_set ?_ GE118.out) | exact HB.out)) : P := h
theorem z92_ {P : Prop} (h : P := by repeat (first | (with_reducible exact HR210.out) | (with_reducible refine Kd.C_alloc ?_ _) | (with_reducible refine Kd.C_drewN ?_ _) | (with_reducible refine Kd.C_drew ?_) | exact HR210.out)) : P := h
theorem z93_ {P : Prop} (h : P := by repeat (first | (with_reducible first | exact HB.out | apply below_alloc | apply pw_below_drewN | apply below_drew1 | refine below_set ?_ (IsS66.ge HI104.out)) | exact HB.out)) : P := h
theorem z94_ {P : Prop} (h : P := by repeat (first | (with_reducible first | exact HI0.out | apply IsS66.drewN | apply IsS66.drew | apply IsS66.set_2 | apply IsS66.set_1) | exact HI0.out)) : P := h
theorem z95_ {P : Prop} (h : P := by repeat (first | (with_reducible first | exact HI0.out | apply IsS66.drewN | apply IsS66.drew | apply IsS66.set_2 | apply IsS66.set_1) | exact HI0.out)) : P := h
theorem z96_ {P : Prop} (h : P := by repeat (first | (with_reducible first | exact HI0.out | apply IsS66.drewN | apply IsS66.drew | apply IsS66.set_2 | apply IsS66.set_1) | exact HI0.out)) : P := h
theorem z97_ {P : Prop} (h : P := by repeat (first | (with_reducible first | exact HI0.out | apply IsS66.drewN | apply IsS66.drew | apply IsS66.set_2 | apply IsS66.set_1) | exact HI0.out)) : P := h
theorem z98_ {P : Prop} (h : P := by repeat (first | (with_reducible first | exact HI0.out | apply IsS66.drewN | apply IsS66.drew | apply IsS66.set_2 | apply IsS66.set_1) | exact HI0.out)) : P := h
theorem z99_ {P : Prop} (h : P := by repeat (first | (with_reducible first | exact HI0.out | apply IsS66.drewN | apply IsS66.drew | apply IsS66.set_2 | apply IsS66.set_1) | exact HI0.out)) : P := h
theorem z100_ {P : Prop} (h : P := by repeat (first | (with_reducible first | exact HI0.out | apply IsS66.drewN | apply IsS66.drew | apply IsS66.set_2 | apply IsS66.set_1) | exact HI0.out)) : P := h
theorem z101_ {P : Prop} (h : P := by repeat (first | (with_reducible first | exact HI0.out | apply IsS66.drewN | apply IsS66.drew | apply IsS66.set_2 | apply IsS66.set_1) | exact HI0.out)) : P := h
theorem z102_ {P : Prop} (h : P := by repeat (first | (with_reducible first | exact HI0.out | apply IsS66.drewN | apply IsS66.drew | apply IsS66.set_2 | apply IsS66.set_1) | exact HI0.out)) : P := h
theorem z103_ {P : Prop} (h : P := by repeat (first | (with_reducible first | exact HI0.out | apply IsS66.drewN | apply IsS66.drew | apply IsS66.set_2 | apply IsS66.set_1) | exact HI0.out)) : P := h
theorem z104_ {P : Prop} (h : P := by repeat (first | (with_reducible first | exact HI0.out | apply IsS66.drewN | apply IsS66.drew | apply IsS66.set_2 | apply IsS66.set_1) | exact HI0.out)) : P := h
theorem z105_ {P : Prop} (h : P := by repeat (first | (with_reducible first | exact HI0.out | apply IsS66.drewN | apply IsS66.drew | apply IsS66.set_2 | apply IsS66.set_1) | exact HI0.out)) : P := h
theorem z106_ {P : Prop} (h : P := by repeat (first | (with_reducible first | exact HI0.out | apply IsS66.drewN | apply IsS66.drew | apply IsS66.set_2 | apply IsS66.set_1) | exact HI0.out)) : P := h
theorem z107_ {P : Prop} (h : P := by repeat (first | (with_reducible first | exact HI0.out | apply IsS66.drewN | apply IsS66.drew | apply IsS66.set_2 | apply IsS66.set_1) | exact HI0.out)) : P := h
theorem z108_ {P : Prop} (h : P := by repeat (first | (with_reducible first | exact HI0.out | apply IsS66.drewN | apply IsS66.drew | apply IsS66.set_2 | apply IsS66.set_1) | exact HI0.out)) : P := h
theorem z109_ {P : Prop} (h : P := by repeat (first | (with_reducible first | exact HI0.out | apply IsS66.drewN | apply IsS66.drew | apply IsS66.set_2 | apply IsS66.set_1) | exact HI0.out)) : P := h
theorem z110_ {P : Prop} (h : P := by repeat (first | (with_reducible first | exact HI0.out | apply IsS66.drewN | apply IsS66.drew | apply IsS66.set_2 | apply IsS66.set_1) | exact HI0.out)) : P := h
theorem z111_ {P : Prop} (h : P := by repeat (first | (with_reducible first | exact HI0.out | apply IsS66.drewN | apply IsS66.drew | apply IsS66.set_2 | apply IsS66.set_1) | exact HI0.out)) : P := h
theorem z112_ {P : Prop} (h : P := by repeat (first | (with_reducible first | exact HI0.out | apply IsS66.drewN | apply IsS66.drew | apply IsS66.set_2 | apply IsS66.set_1) | exact HI0.out)) : P := h
theorem z113_ {P : Prop} (h : P := by repeat (first | (with_reducible first | exact HI0.out | apply IsS66.drewN | apply IsS66.drew | apply IsS66.set_2 | apply IsS66.set_1) | exact HI0.out)) : P := h
theorem z114_ {P : Prop} (h : P := by repeat (first | (with_reducible first | exact HI0.out | apply IsS66.drewN | apply IsS66.drew | apply IsS66.set_2 | apply IsS66.set_1) | exact HI0.out)) : P := h
theorem z115_ {P : Prop} (h : P := by repeat (first | (with_reducible first | exact HI0.out | apply IsS66.drewN | apply IsS66.drew | apply IsS66.set_2 | apply IsS66.set_1) | exact HI0.out)) : P := h
theorem z116_ {P : Prop} (h : P := by repeat (first | (with_reducible first | exact HI0.out | apply IsS66.drewN | apply IsS66.drew | apply IsS66.set_2 | apply IsS66.set_1) | exact HI0.out)) : P := h
theorem z117_ {P : Prop} (h : P := by repeat (first | (with_reducible first | exact HI0.out | apply IsS66.drewN | apply IsS66.drew | apply IsS66.set_2 | apply IsS66.set_1) | exact HI0.out)) : P := h
theorem z118_ {P : Prop} (h : P := by repeat (first | (with_reducible first | exact HI0.out | apply IsS66.drewN | apply IsS66.drew | apply IsS66.set_2 | apply IsS66.set_1) | exact HI0.out)) : P := h
theorem z119_ {P : Prop} (h : P := by repeat (first | (with_reducible first | exact HI0.out | apply IsS66.drewN | apply IsS66.drew | apply IsS66.set_2 | apply IsS66.set_1) | exact HI0.out)) : P := h
theorem z120_ {P : Prop} (h : P := by repeat (first | (with_reducible first | exact HI0.out | apply IsS66.drewN | apply IsS66.drew | apply IsS66.set_2 | apply IsS66.set_1) | exact HI0.out)) : P := h
theorem z121_ {P : Prop} (h : P := by repeat (first | (with_reducible first | exact HI0.out | apply IsS66.drewN | apply IsS66.drew | apply IsS66.set_2 | apply IsS66.set_1) | exact HI0.out)) : P := h
theorem z122_ {P : Prop} (h : P := by repeat (first | (with_reducible first | exact HI0.out | apply IsS66.drewN | apply IsS66.drew | apply IsS66.set_2 | apply IsS66.set_1) | exact HI0.out)) : P := h
theorem z123_ {P : Prop} (h : P := by repeat (first | (with_reducible first | exact HI0.out | apply IsS66.drewN | apply IsS66.drew | apply IsS66.set_2 | apply IsS66.set_1) | exact HI0.out)) : P := h
theorem z124_ {P : Prop} (h : P := by repeat (first | (with_reducible first | exact HI0.out | apply IsS66.drewN | apply IsS66.drew | apply IsS66.set_2 | apply IsS66.set_1) | exact HI0.out)) : P := h
theorem z125_ {P : Prop} (h : P := by repeat (first | (with_reducible first | exact HI0.out | apply IsS66.drewN | apply IsS66.drew | apply IsS66.set_2 | apply IsS66.set_1) | exact HI0.out)) : P := h
theorem z126_ {P : Prop} (h : P := by repeat (first | (with_reducible first | exact HI0.out | apply IsS66.drewN | apply IsS66.drew | apply IsS66.set_2 | apply IsS66.set_1) | exact HI0.out)) : P := h
theorem z127_ {P : Prop} (h : P := by repeat (first | (with_reducible first | exact HI0.out | apply IsS66.drewN | apply IsS66.drew | apply IsS66.set_2 | apply IsS66.set_1) | exact HI0.out)) : P := h
theorem z128_ {P : Prop} (h : P := by repeat (first | (with_reducible first | exact HI0.out | apply IsS66.drewN | apply IsS66.drew | apply IsS66.set_2 | apply IsS66.set_1) | exact HI0.out)) : P := h
theorem z129_ {P : Prop} (h : P := by repeat (first | (with_reducible first | exact HI0.out | apply IsS66.drewN | apply IsS66.drew | apply IsS66.set_2 | apply IsS66.set_1) | exact HI0.out)) : P := h
theorem z130_ {P : Prop} (h : P := by repeat (first | (with_reducible first | exact HI0.out | apply IsS66.drewN | apply IsS66.drew | apply IsS66.set_2 | apply IsS66.set_1) | exact HI0.out)) : P := h
theorem z131_ {P : Prop} (h : P := by repeat (first | (with_reducible first | exact HI0.out | apply IsS66.drewN | apply IsS66.drew | apply IsS66.set_2 | apply IsS66.set_1) | exact HI0.out)) : P := h
theorem z132_ {P : Prop} (h : P := by repeat (first | (with_reducible first | exact HI0.out | apply IsS66.drewN | apply IsS66.drew | apply IsS66.set_2 | apply IsS66.set_1) | exact HI0.out)) : P := h
theorem z133_ {P : Prop} (h : P := by repeat (first | (with_reducible first | exact HI0.out | apply IsS66.drewN | apply IsS66.drew | apply IsS66.set_2 | apply IsS66.set_1) | exact HI0.out)) : P := h
theorem z134_ {P : Prop} (h : P := by repeat (first | (with_reducible first | exact HI0.out | apply IsS66.drewN | apply IsS66.drew | apply IsS66.set_2 | apply IsS66.set_1) | exact HI0.out)) : P := h
theorem z135_ {P : Prop} (h : P := by repeat (first | (with_reducible first | exact HI0.out | apply IsS66.drewN | apply IsS66.drew | apply IsS66.set_2 | apply IsS66.set_1) | exact HI0.out)) : P := h
theorem z136_ {P : Prop} (h : P := by repeat (first | (with_reducible first | exact HI0.out | apply IsS66.drewN | apply IsS66.drew | apply IsS66.set_2 | apply IsS66.set_1) | exact HI0.out)) : P := h
theorem z137_ {P : Prop} (h : P := by repeat (first | (with_reducible first | exact HI0.out | apply IsS66.drewN | apply IsS66.drew | apply IsS66.set_2 | apply IsS66.set_1) | exact HI0.out)) : P := h
theorem z138_ {P : Prop} (h : P := by repeat (first | (with_reducible first | exact HI0.out | apply IsS66.drewN | apply IsS66.drew | apply IsS66.set_2 | apply IsS66.set_1) | exact HI0.out)) : P := h
theorem z139_ {P : Prop} (h : P := by repeat (first | (with_reducible first | exact HI0.out | apply IsS66.drewN | apply IsS66.drew | apply IsS66.set_2 | apply IsS66.set_1) | exact HI0.out)) : P := h
theorem z140_ {P : Prop} (h : P := by repeat (first | (with_reducible first | exact HI0.out | apply IsS66.drewN | apply IsS66.drew | apply IsS66.set_2 | apply IsS66.set_1) | exact HI0.out)) : P := h
theorem z141_ {P : Prop} (h : P := by repeat (first | (with_reducible first | exact HI0.out | apply IsS66.drewN | apply IsS66.drew | apply IsS66.set_2 | apply IsS66.set_1) | exact HI0.out)) : P := h
theorem z142_ {P : Prop} (h : P := by repeat (first | (with_reducible first | exact HI0.out | apply IsS66.drewN | apply IsS66.drew | apply IsS66.set_2 | apply IsS66.set_1) | exact HI0.out)) : P := h
theorem z143_ {P : Prop} (h : P := by repeat (first | (with_reducible first | exact HI0.out | apply IsS66.drewN | apply IsS66.drew | apply IsS66.set_2 | apply IsS66.set_1) | exact HI0.out)) : P := h
theorem z144_ {P : Prop} (h : P := by repeat (first | (with_reducible first | exact HI0.out | apply IsS66.drewN | apply IsS66.drew | apply IsS66.set_2 | apply IsS66.set_1) | exact HI0.out)) : P := h
theorem z145_ {P : Prop} (h : P := by repeat (first | (with_reducible first | exact HI0.out | apply IsS66.drewN | apply IsS66.drew | apply IsS66.set_2 | apply IsS66.set_1) | exact HI0.out)) : P := h
theorem z146_ {P : Prop} (h : P := by repeat (first | (with_reducible first | exact HI0.out | apply IsS66.drewN | apply IsS66.drew | apply IsS66.set_2 | apply IsS66.set_1) | exact HI0.out)) : P := h
theorem z147_ {P : Prop} (h : P := by repeat (first | (with_reducible first | exact HI0.out | apply IsS66.drewN | apply IsS66.drew | apply IsS66.set_2 | apply IsS66.set_1) | exact HI0.out)) : P := h
theorem z148_ {P : Prop} (h : P := by repeat (first | (with_reducible first | exact HI0.out | apply IsS66.drewN | apply IsS66.drew | apply IsS66.set_2 | apply IsS66.set_1) | exact HI0.out)) : P := h
theorem z149_ {P : Prop} (h : P := by repeat (first | (with_reducible first | exact HI0.out | apply IsS66.drewN | apply IsS66.drew | apply IsS66.set_2 | apply IsS66.set_1) | exact HI0.out)) : P := h
theorem z150_ {P : Prop} (h : P := by repeat (first | (with_reducible first | exact HI0.out | apply IsS66.drewN | apply IsS66.drew | apply IsS66.set_2 | apply IsS66.set_1) | exact HI0.out)) : P := h
theorem z151_ {P : Prop} (h : P := by repeat (first | (with_reducible first | exact HI0.out | apply IsS66.drewN | apply IsS66.drew | apply IsS66.set_2 | apply IsS66.set_1) | exact HI0.out)) : P := h
theorem z152_ {P : Prop} (h : P := by repeat (first | (with_reducible first | exact HI0.out | apply IsS66.drewN | apply IsS66.drew | apply IsS66.set_2 | apply IsS66.set_1) | exact HI0.out)) : P := h
theorem z153_ {P : Prop} (h : P := by repeat (first | (with_reducible first | exact HI0.out | apply IsS66.drewN | apply IsS66.drew | apply IsS66.set_2 | apply IsS66.set_1) | exact HI0.out)) : P := h
theorem z154_ {P : Prop} (h : P := by repeat (first | (with_reducible first | exact HI0.out | apply IsS66.drewN | apply IsS66.drew | apply IsS66.set_2 | apply IsS66.set_1) | exact HI0.out)) : P := h
theorem z155_ {P : Prop} (h : P := by repeat (first | (with_reducible first | exact HI0.out | apply IsS66.drewN | apply IsS66.drew | apply IsS66.set_2 | apply IsS66.set_1) | exact HI0.out)) : P := h
theorem z156_ {P : Prop} (h : P := by repeat (first | (with_reducible first | exact HI0.out | apply IsS66.drewN | apply IsS66.drew | apply IsS66.set_2 | apply IsS66.set_1) | exact HI0.out)) : P := h
theorem z157_ {P : Prop} (h : P := by repeat (first | (with_reducible first | exact HI0.out | apply IsS66.drewN | apply IsS66.drew | apply IsS66.set_2 | apply IsS66.set_1) | exact HI0.out)) : P := h
theorem z158_ {P : Prop} (h : P := by repeat (first | (with_reducible first | exact HI0.out | apply IsS66.drewN | apply IsS66.drew | apply IsS66.set_2 | apply IsS66.set_1) | exact HI0.out)) : P := h
theorem z159_ {P : Prop} (h : P := by repeat (first | (with_reducible first | exact HI0.out | apply IsS66.drewN | apply IsS66.drew | apply IsS66.set_2 | apply IsS66.set_1) | exact HI0.out)) : P := h
theorem z160_ {P : Prop} (h : P := by repeat (first | (with_reducible first | exact HI0.out | apply IsS66.drewN | apply IsS66.drew | apply IsS66.set_2 | apply IsS66.set_1) | exact HI0.out)) : P := h
theorem z161_ {P : Prop} (h : P := by repeat (first | (with_reducible first | exact HI0.out | apply IsS66.drewN | apply IsS66.drew | apply IsS66.set_2 | apply IsS66.set_1) | exact HI0.out)) : P := h
theorem z162_ {P : Prop} (h : P := by repeat (first | (with_reducible first | exact HI0.out | apply IsS66.drewN | apply IsS66.drew | apply IsS66.set_2 | apply IsS66.set_1) | exact HI0.out)) : P := h
theorem z163_ {P : Prop} (h : P := by repeat (first | (with_reducible first | exact HI0.out | apply IsS66.drewN | apply IsS66.drew | apply IsS66.set_2 | apply IsS66.set_1) | exact HI0.out)) : P := h
theorem z164_ {P : Prop} (h : P := by repeat (first | (with_reducible first | exact HI0.out | apply IsS66.drewN | apply IsS66.drew | apply IsS66.set_2 | apply IsS66.set_1) | exact HI0.out)) : P := h
theorem z165_ {P : Prop} (h : P := by repeat (first | (with_reducible first | exact HI0.out | apply IsS66.drewN | apply IsS66.drew | apply IsS66.set_2 | apply IsS66.set_1) | exact HI0.out)) : P := h
theorem z166_ {P : Prop} (h : P := by repeat (first | (with_reducible first | exact HI0.out | apply IsS66.drewN | apply IsS66.drew | apply IsS66.set_2 | apply IsS66.set_1) | exact HI0.out)) : P := h
theorem z167_ {P : Prop} (h : P := by repeat (first | (with_reducible first | exact HI0.out | apply IsS66.drewN | apply IsS66.drew | apply IsS66.set_2 | apply IsS66.set_1) | exact HI0.out)) : P := h
theorem z168_ {P : Prop} (h : P := by repeat (first | (with_reducible first | exact HI0.out | apply IsS66.drewN | apply IsS66.drew | apply IsS66.set_2 | apply IsS66.set_1) | exact HI0.out)) : P := h
theorem z169_ {P : Prop} (h : P := by repeat (first | (with_reducible first | exact HI0.out | apply IsS66.drewN | apply IsS66.drew | apply IsS66.set_2 | apply IsS66.set_1) | exact HI0.out)) : P := h
theorem z170_ {P : Prop} (h : P := by repeat (first | (with_reducible first | exact HI0.out | apply IsS66.drewN | apply IsS66.drew | apply IsS66.set_2 | apply IsS66.set_1) | exact HI0.out)) : P := h
theorem z171_ {P : Prop} (h : P := by repeat (first | (with_reducible first | exact HI0.out | apply IsS66.drewN | apply IsS66.drew | apply IsS66.set_2 | apply IsS66.set_1) | exact HI0.out)) : P := h
theorem z172_ {P : Prop} (h : P := by repeat (first | (with_reducible first | exact HI0.out | apply IsS66.drewN | apply IsS66.drew | apply IsS66.set_2 | apply IsS66.set_1) | exact HI0.out)) : P := h
theorem z173_ {P : Prop} (h : P := by repeat (first | (with_reducible first | exact HI0.out | apply IsS66.drewN | apply IsS66.drew | apply IsS66.set_2 | apply IsS66.set_1) | exact HI0.out)) : P := h
theorem z174_ {P : Prop} (h : P := by repeat (first | (with_reducible first | exact HI0.out | apply IsS66.drewN | apply IsS66.drew | apply IsS66.set_2 | apply IsS66.set_1) | exact HI0.out)) : P := h
theorem z175_ {P : Prop} (h : P := by repeat (first | (with_reducible first | exact HI0.out | apply IsS66.drewN | apply IsS66.drew | apply IsS66.set_2 | apply IsS66.set_1) | exact HI0.out)) : P := h
theorem z176_ {P : Prop} (h : P := by repeat (first | (with_reducible first | exact HI0.out | apply IsS66.drewN | apply IsS66.drew | apply IsS66.set_2 | apply IsS66.set_1) | exact HI0.out)) : P := h
theorem z177_ {P : Prop} (h : P := by repeat (first | (with_reducible first | exact HI0.out | apply IsS66.drewN | apply IsS66.drew | apply IsS66.set_2 | apply IsS66.set_1) | exact HI0.out)) : P := h
theorem z178_ {P : Prop} (h : P := by repeat (first | (with_reducible first | exact HI0.out | apply IsS66.drewN | apply IsS66.drew | apply IsS66.set_2 | apply IsS66.set_1) | exact HI0.out)) : P := h
theorem z179_ {P : Prop} (h : P := by repeat (first | (with_reducible first | exact HI0.out | apply IsS66.drewN | apply IsS66.drew | apply IsS66.set_2 | apply IsS66.set_1) | exact HI0.out)) : P := h
theorem z180_ {P : Prop} (h : P := by repeat (first | (with_reducible first | exact HI0.out | apply IsS66.drewN | apply IsS66.drew | apply IsS66.set_2 | apply IsS66.set_1) | exact HI0.out)) : P := h
theorem z181_ {P : Prop} (h : P := by repeat (first | (with_reducible first | exact HI0.out | apply IsS66.drewN | apply IsS66.drew | apply IsS66.set_2 | apply IsS66.set_1) | exact HI0.out)) : P := h
theorem z182_ {P : Prop} (h : P := by repeat (first | (with_reducible first | exact HI0.out | apply IsS66.drewN | apply IsS66.drew | apply IsS66.set_2 | apply IsS66.set_1) | exact HI0.out)) : P := h
theorem z183_ {P : Prop} (h : P := by repeat (first | (with_reducible first | exact HI0.out | apply IsS66.drewN | apply IsS66.drew | apply IsS66.set_2 | apply IsS66.set_1) | exact HI0.out)) : P := h
theorem z184_ {P : Prop} (h : P := by repeat (first | (with_reducible first | exact HI0.out | apply IsS66.drewN | apply IsS66.drew | apply IsS66.set_2 | apply IsS66.set_1) | exact HI0.out)) : P := h
theorem z185_ {P : Prop} (h : P := by repeat (first | (with_reducible first | exact HI0.out | apply IsS66.drewN | apply IsS66.drew | apply IsS66.set_2 | apply IsS66.set_1) | exact HI0.out)) : P := h
theorem z186_ {P : Prop} (h : P := by repeat (first | (with_reducible first | exact HI0.out | apply IsS66.drewN | apply IsS66.drew | apply IsS66.set_2 | apply IsS66.set_1) | exact HI0.out)) : P := h
theorem z187_ {P : Prop} (h : P := by repeat (first | (with_reducible first | exact HI0.out | apply IsS66.drewN | apply IsS66.drew | apply IsS66.set_2 | apply IsS66.set_1) | exact HI0.out)) : P := h
theorem z188_ {P : Prop} (h : P := by repeat (first | (with_reducible first | exact HI0.out | apply IsS66.drewN | apply IsS66.drew | apply IsS66.set_2 | apply IsS66.set_1) | exact HI0.out)) : P := h
theorem z189_ {P : Prop} (h : P := by repeat (first | (with_reducible first | exact HI0.out | apply IsS66.drewN | apply IsS66.drew | apply IsS66.set_2 | apply IsS66.set_1) | exact HI0.out)) : P := h
theorem z190_ {P : Prop} (h : P := by repeat (first | (with_reducible first | exact HI0.out | apply IsS66.drewN | apply IsS66.drew | apply IsS66.set_2 | apply IsS66.set_1) | exact HI0.out)) : P := h
theorem z191_ {P : Prop} (h : P := by repeat (first | (with_reducible first | exact HI0.out | apply IsS66.drewN | apply IsS66.drew | apply IsS66.set_2 | apply IsS66.set_1) | exact HI0.out)) : P := h
theorem z192_ {P : Prop} (h : P := by repeat (first | (with_reducible first | exact HI0.out | apply IsS66.drewN | apply IsS66.drew | apply IsS66.set_2 | apply IsS66.set_1) | exact HI0.out)) : P := h
theorem z193_ {P : Prop} (h : P := by repeat (first | (with_reducible first | exact HI0.out | apply IsS66.drewN | apply IsS66.drew | apply IsS66.set_2 | apply IsS66.set_1) | exact HI0.out)) : P := h
theorem z194_ {P : Prop} (h : P := by repeat (first | (with_reducible first | exact HI0.out | apply IsS66.drewN | apply IsS66.drew | apply IsS66.set_2 | apply IsS66.set_1) | exact HI0.out)) : P := h
theorem z195_ {P : Prop} (h : P := by repeat (first | (with_reducible first | exact HI0.out | apply IsS66.drewN | apply IsS66.drew | apply IsS66.set_2 | apply IsS66.set_1) | exact HI0.out)) : P := h
theorem z196_ {P : Prop} (h : P := by repeat (first | (with_reducible first | exact HI0.out | apply IsS66.drewN | apply IsS66.drew | apply IsS66.set_2 | apply IsS66.set_1) | exact HI0.out)) : P := h
theorem z197_ {P : Prop} (h : P := by repeat (first | (with_reducible first | exact HI0.out | apply IsS66.drewN | apply IsS66.drew | apply IsS66.set_2 | apply IsS66.set_1) | exact HI0.out)) : P := h
theorem z198_ {P : Prop} (h : P := by repeat (first | (with_reducible first | exact HI0.out | apply IsS66.drewN | apply IsS66.drew | apply IsS66.set_2 | apply IsS66.set_1) | exact HI0.out)) : P := h
theorem z199_ {P : Prop} (h : P := by repeat (first | (with_reducible first | exact HI0.out | apply IsS66.drewN | apply IsS66.drew | apply IsS66.set_2 | apply IsS66.set_1) | exact HI0.out)) : P := h
theorem z200_ {P : Prop} (h : P := by repeat (first | (with_reducible first | exact HI0.out | apply IsS66.drewN | apply IsS66.drew | apply IsS66.set_2 | apply IsS66.set_1) | exact HI0.out)) : P := h
theorem z201_ {P : Prop} (h : P := by repeat (first | (with_reducible first | exact HI0.out | apply IsS66.drewN | apply IsS66.drew | apply IsS66.set_2 | apply IsS66.set_1) | exact HI0.out)) : P := h
theorem z202_ {P : Prop} (h : P := by repeat (first | (with_reducible first | exact HI0.out | apply IsS66.drewN | apply IsS66.drew | apply IsS66.set_2 | apply IsS66.set_1) | exact HI0.out)) : P := h
theorem z203_ {P : Prop} (h : P := by repeat (first | (with_reducible first | exact HI0.out | apply IsS66.drewN | apply IsS66.drew | apply IsS66.set_2 | apply IsS66.set_1) | exact HI0.out)) : P := h
theorem z204_ {P : Prop} (h : P := by repeat (first | (with_reducible first | exact HI0.out | apply IsS66.drewN | apply IsS66.drew | apply IsS66.set_2 | apply IsS66.set_1) | exact HI0.out)) : P := h
theorem z205_ {P : Prop} (h : P := by repeat (first | (with_reducible first | exact HI0.out | apply IsS66.drewN | apply IsS66.drew | apply IsS66.set_2 | apply IsS66.set_1) | exact HI0.out)) : P := h
theorem z206_ {P : Prop} (h : P := by repeat (first | (with_reducible first | exact HI0.out | apply IsS66.drewN | apply IsS66.drew | apply IsS66.set_2 | apply IsS66.set_1) | exact HI0.out)) : P := h
theorem z207_ {P : Prop} (h : P := by repeat (first | (with_reducible first | exact HI0.out | apply IsS66.drewN | apply IsS66.drew | apply IsS66.set_2 | apply IsS66.set_1) | exact HI0.out)) : P := h
theorem z208_ {P : Prop} (h : P := by repeat (first | (with_reducible first | exact HI0.out | apply IsS66.drewN | apply IsS66.drew | apply IsS66.set_2 | apply IsS66.set_1) | exact HI0.out)) : P := h
theorem z209_ {P : Prop} (h : P := by repeat (first | (with_reducible first | exact HI0.out | apply IsS66.drewN | apply IsS66.drew | apply IsS66.set_2 | apply IsS66.set_1) | exact HI0.out)) : P := h
theorem z210_ {P : Prop} (h : P := by repeat (first | (with_reducible first | exact HI0.out | apply IsS66.drewN | apply IsS66.drew | apply IsS66.set_2 | apply IsS66.set_1) | exact HI0.out)) : P := h
theorem z211_ {P : Prop} (h : P := by repeat (first | (with_reducible first | exact HI0.out | apply IsS66.drewN | apply IsS66.drew | apply IsS66.set_2 | apply IsS66.set_1) | exact HI0.out)) : P := h
theorem z212_ {P : Prop} (h : P := by repeat (first | (with_reducible first | exact HI0.out | apply IsS66.drewN | apply IsS66.drew | apply IsS66.set_2 | apply IsS66.set_1) | exact HI0.out)) : P := h
theorem z213_ {P : Prop} (h : P := by repeat (first | (with_reducible first | exact HI0.out | apply IsS66.drewN | apply IsS66.drew | apply IsS66.set_2 | apply IsS66.set_1) | exact HI0.out)) : P := h
theorem z214_ {P : Prop} (h : P := by repeat (first | (with_reducible first | exact HI0.out | apply IsS66.drewN | apply IsS66.drew | apply IsS66.set_2 | apply IsS66.set_1) | exact HI0.out)) : P := h
theorem z215_ {P : Prop} (h : P := by repeat (first | (with_reducible first | exact HI0.out | apply IsS66.drewN | apply IsS66.drew | apply IsS66.set_2 | apply IsS66.set_1) | exact HI0.out)) : P := h
theorem z216_ {P : Prop} (h : P := by repeat (first | (with_reducible first | exact HI0.out | apply IsS66.drewN | apply IsS66.drew | apply IsS66.set_2 | apply IsS66.set_1) | exact HI0.out)) : P := h
theorem z217_ {P : Prop} (h : P := by repeat (first | (with_reducible first | exact HI0.out | apply IsS66.drewN | apply IsS66.drew | apply IsS66.set_2 | apply IsS66.set_1) | exact HI0.out)) : P := h
theorem z218_ {P : Prop} (h : P := by repeat (first | (with_reducible first | exact HI0.out | apply IsS66.drewN | apply IsS66.drew | apply IsS66.set_2 | apply IsS66.set_1) | exact HI0.out)) : P := h
theorem z219_ {P : Prop} (h : P := by repeat (first | (with_reducible first | exact HI0.out | apply IsS66.drewN | apply IsS66.drew | apply IsS66.set_2 | apply IsS66.set_1) | exact HI0.out)) : P := h
theorem z220_ {P : Prop} (h : P := by repeat (first | (with_reducible first | exact HI0.out | apply IsS66.drewN | apply IsS66.drew | apply IsS66.set_2 | apply IsS66.set_1) | exact HI0.out)) : P := h
theorem z221_ {P : Prop} (h : P := by repeat (first | (with_reducible first | exact HI0.out | apply IsS66.drewN | apply IsS66.drew | apply IsS66.set_2 | apply IsS66.set_1) | exact HI0.out)) : P := h
theorem z222_ {P : Prop} (h : P := by repeat (first | (with_reducible first | exact HI0.out | apply IsS66.drewN | apply IsS66.drew | apply IsS66.set_2 | apply IsS66.set_1) | exact HI0.out)) : P := h
theorem z223_ {P : Prop} (h : P := by repeat (first | (with_reducible first | exact HI0.out | apply IsS66.drewN | apply IsS66.drew | apply IsS66.set_2 | apply IsS66.set_1) | exact HI0.out)) : P := h
theorem z224_ {P : Prop} (h : P := by repeat (first | (with_reducible first | exact HI0.out | apply IsS66.drewN | apply IsS66.drew | apply IsS66.set_2 | apply IsS66.set_1) | exact HI0.out)) : P := h
theorem z225_ {P : Prop} (h : P := by repeat (first | (with_reducible first | exact HI0.out | apply IsS66.drewN | apply IsS66.drew | apply IsS66.set_2 | apply IsS66.set_1) | exact HI0.out)) : P := h
theorem z226_ {P : Prop} (h : P := by repeat (first | (with_reducible first | exact HI0.out | apply IsS66.drewN | apply IsS66.drew | apply IsS66.set_2 | apply IsS66.set_1) | exact HI0.out)) : P := h
theorem z227_ {P : Prop} (h : P := by repeat (first | (with_reducible first | exact HI0.out | apply IsS66.drewN | apply IsS66.drew | apply IsS66.set_2 | apply IsS66.set_1) | exact HI0.out)) : P := h
theorem z228_ {P : Prop} (h : P := by repeat (first | (with_reducible first | exact HI0.out | apply IsS66.drewN | apply IsS66.drew | apply IsS66.set_2 | apply IsS66.set_1) | exact HI0.out)) : P := h
theorem z229_ {P : Prop} (h : P := by repeat (first | (with_reducible first | exact HI0.out | apply IsS66.drewN | apply IsS66.drew | apply IsS66.set_2 | apply IsS66.set_1) | exact HI0.out)) : P := h
theorem z230_ {P : Prop} (h : P := by repeat (first | (with_reducible first | exact HI0.out | apply IsS66.drewN | apply IsS66.drew | apply IsS66.set_2 | apply IsS66.set_1) | exact HI0.out)) : P := h
theorem z231_ {P : Prop} (h : P := by repeat (first | (with_reducible first | exact HI0.out | apply IsS66.drewN | apply IsS66.drew | apply IsS66.set_2 | apply IsS66.set_1) | exact HI0.out)) : P := h
theorem z232_ {P : Prop} (h : P := by repeat (first | (with_reducible first | exact HI0.out | apply IsS66.drewN | apply IsS66.drew | apply IsS66.set_2 | apply IsS66.set_1) | exact HI0.out)) : P := h
theorem z233_ {P : Prop} (h : P := by repeat (first | (with_reducible first | exact HI0.out | apply IsS66.drewN | apply IsS66.drew | apply IsS66.set_2 | apply IsS66.set_1) | exact HI0.out)) : P := h
theorem z234_ {P : Prop} (h : P := by repeat (first | (with_reducible first | exact HI0.out | apply IsS66.drewN | apply IsS66.drew | apply IsS66.set_2 | apply IsS66.set_1) | exact HI0.out)) : P := h
theorem z235_ {P : Prop} (h : P := by repeat (first | (with_reducible first | exact HI0.out | apply IsS66.drewN | apply IsS66.drew | apply IsS66.set_2 | apply IsS66.set_1) | exact HI0.out)) : P := h
theorem z236_ {P : Prop} (h : P := by repeat (first | (with_reducible first | exact HI0.out | apply IsS66.drewN | apply IsS66.drew | apply IsS66.set_2 | apply IsS66.set_1) | exact HI0.out)) : P := h
theorem z237_ {P : Prop} (h : P := by repeat (first | (with_reducible first | exact HI0.out | apply IsS66.drewN | apply IsS66.drew | apply IsS66.set_2 | apply IsS66.set_1) | exact HI0.out)) : P := h
theorem z238_ {P : Prop} (h : P := by repeat (first | (with_reducible first | exact HI0.out | apply IsS66.drewN | apply IsS66.drew | apply IsS66.set_2 | apply IsS66.set_1) | exact HI0.out)) : P := h
theorem z239_ {P : Prop} (h : P := by repeat (first | (with_reducible first | exact HI0.out | apply IsS66.drewN | apply IsS66.drew | apply IsS66.set_2 | apply IsS66.set_1) | exact HI0.out)) : P := h
theorem z240_ {P : Prop} (h : P := by repeat (first | (with_reducible first | exact HI0.out | apply IsS66.drewN | apply IsS66.drew | apply IsS66.set_2 | apply IsS66.set_1) | exact HI0.out)) : P := h
theorem z241_ {P : Prop} (h : P := by repeat (first | (with_reducible first | exact HI0.out | apply IsS66.drewN | apply IsS66.drew | apply IsS66.set_2 | apply IsS66.set_1) | exact HI0.out)) : P := h
theorem z242_ {P : Prop} (h : P := by repeat (first | (with_reducible first | exact HI0.out | apply IsS66.drewN | apply IsS66.drew | apply IsS66.set_2 | apply IsS66.set_1) | exact HI0.out)) : P := h
theorem z243_ {P : Prop} (h : P := by repeat (first | (with_reducible first | exact HI0.out | apply IsS66.drewN | apply IsS66.drew | apply IsS66.set_2 | apply IsS66.set_1) | exact HI0.out)) : P := h
theorem z244_ {P : Prop} (h : P := by repeat (first | (with_reducible first | exact HI0.out | apply IsS66.drewN | apply IsS66.drew | apply IsS66.set_2 | apply IsS66.set_1) | exact HI0.out)) : P := h
theorem z245_ {P : Prop} (h : P := by repeat (first | (with_reducible first | exact HI0.out | apply IsS66.drewN | apply IsS66.drew | apply IsS66.set_2 | apply IsS66.set_1) | exact HI0.out)) : P := h
theorem z246_ {P : Prop} (h : P := by repeat (first | (with_reducible first | exact HI0.out | apply IsS66.drewN | apply IsS66.drew | apply IsS66.set_2 | apply IsS66.set_1) | exact HI0.out)) : P := h
theorem z247_ {P : Prop} (h : P := by repeat (first | (with_reducible first | exact HI0.out | apply IsS66.drewN | apply IsS66.drew | apply IsS66.set_2 | apply IsS66.set_1) | exact HI0.out)) : P := h
theorem z248_ {P : Prop} (h : P := by repeat (first | (with_reducible first | exact HI0.out | apply IsS66.drewN | apply IsS66.drew | apply IsS66.set_2 | apply IsS66.set_1) | exact HI0.out)) : P := h
theorem z249_ {P : Prop} (h : P := by repeat (first | (with_reducible first | exact HI0.out | apply IsS66.drewN | apply IsS66.drew | apply IsS66.set_2 | apply IsS66.set_1) | exact HI0.out)) : P := h
theorem z250_ {P : Prop} (h : P := by repeat (first | (with_reducible first | exact HI0.out | apply IsS66.drewN | apply IsS66.drew | apply IsS66.set_2 | apply IsS66.set_1) | exact HI0.out)) : P := h
theorem z251_ {P : Prop} (h : P := by repeat (first | (with_reducible first | exact HI0.out | apply IsS66.drewN | apply IsS66.drew | apply IsS66.set_2 | apply IsS66.set_1) | exact HI0.out)) : P := h
theorem z252_ {P : Prop} (h : P := by repeat (first | (with_reducible first | exact HI0.out | apply IsS66.drewN | apply IsS66.drew | apply IsS66.set_2 | apply IsS66.set_1) | exact HI0.out)) : P := h
theorem z253_ {P : Prop} (h : P := by repeat (first | (with_reducible first | exact HI0.out | apply IsS66.drewN | apply IsS66.drew | apply IsS66.set_2 | apply IsS66.set_1) | exact HI0.out)) : P := h
theorem z254_ {P : Prop} (h : P := by repeat (first | (with_reducible first | exact HI0.out | apply IsS66.drewN | apply IsS66.drew | apply IsS66.set_2 | apply IsS66.set_1) | exact HI0.out)) : P := h
theorem z255_ {P : Prop} (h : P := by repeat (first | (with_reducible first | exact HI0.out | apply IsS66.drewN | apply IsS66.drew | apply IsS66.set_2 | apply IsS66.set_1) | exact HI0.out)) : P := h
theorem z256_ {P : Prop} (h : P := by repeat (first | (with_reducible first | exact HI0.out | apply IsS66.drewN | apply IsS66.drew | apply IsS66.set_2 | apply IsS66.set_1) | exact HI0.out)) : P := h
theorem z257_ {P : Prop} (h : P := by repeat (first | (with_reducible first | exact HI0.out | apply IsS66.drewN | apply IsS66.drew | apply IsS66.set_2 | apply IsS66.set_1) | exact HI0.out)) : P := h
theorem z258_ {P : Prop} (h : P := by repeat (first | (with_reducible first | exact HI0.out | apply IsS66.drewN | apply IsS66.drew | apply IsS66.set_2 | apply IsS66.set_1) | exact HI0.out)) : P := h
theorem z259_ {P : Prop} (h : P := by repeat (first | (with_reducible first | exact HI0.out | apply IsS66.drewN | apply IsS66.drew | apply IsS66.set_2 | apply IsS66.set_1) | exact HI0.out)) : P := h
theorem z260_ {P : Prop} (h : P := by repeat (first | (with_reducible first | exact HI0.out | apply IsS66.drewN | apply IsS66.drew | apply IsS66.set_2 | apply IsS66.set_1) | exact HI0.out)) : P := h
theorem z261_ {P : Prop} (h : P := by repeat (first | (with_reducible first | exact HI0.out | apply IsS66.drewN | apply IsS66.drew | apply IsS66.set_2 | apply IsS66.set_1) | exact HI0.out)) : P := h
theorem z262_ {P : Prop} (h : P := by repeat (first | (with_reducible first | exact HI0.out | apply IsS66.drewN | apply IsS66.drew | apply IsS66.set_2 | apply IsS66.set_1) | exact HI0.out)) : P := h
theorem z263_ {P : Prop} (h : P := by repeat (first | (with_reducible first | exact HI0.out | apply IsS66.drewN | apply IsS66.drew | apply IsS66.set_2 | apply IsS66.set_1) | exact HI0.out)) : P := h
theorem z264_ {P : Prop} (h : P := by repeat (first | (with_reducible first | exact HI0.out | apply IsS66.drewN | apply IsS66.drew | apply IsS66.set_2 | apply IsS66.set_1) | exact HI0.out)) : P := h
theorem z265_ {P : Prop} (h : P := by repeat (first | (with_reducible first | exact HI0.out | apply IsS66.drewN | apply IsS66.drew | apply IsS66.set_2 | apply IsS66.set_1) | exact HI0.out)) : P := h
theorem z266_ {P : Prop} (h : P := by repeat (first | (with_reducible first | exact HI0.out | apply IsS66.drewN | apply IsS66.drew | apply IsS66.set_2 | apply IsS66.set_1) | exact HI0.out)) : P := h
theorem z267_ {P : Prop} (h : P := by repeat (first | (with_reducible first | exact HI0.out | apply IsS66.drewN | apply IsS66.drew | apply IsS66.set_2 | apply IsS66.set_1) | exact HI0.out)) : P := h
theorem z268_ {P : Prop} (h : P := by repeat (first | (with_reducible first | exact HI0.out | apply IsS66.drewN | apply IsS66.drew | apply IsS66.set_2 | apply IsS66.set_1) | exact HI0.out)) : P := h
theorem z269_ {P : Prop} (h : P := by repeat (first | (with_reducible first | exact HI0.out | apply IsS66.drewN | apply IsS66.drew | apply IsS66.set_2 | apply IsS66.set_1) | exact HI0.out)) : P := h
theorem z270_ {P : Prop} (h : P := by repeat (first | (with_reducible first | exact HI0.out | apply IsS66.drewN | apply IsS66.drew | apply IsS66.set_2 | apply IsS66.set_1) | exact HI0.out)) : P := h
theorem z271_ {P : Prop} (h : P := by repeat (first | (with_reducible first | exact HI0.out | apply IsS66.drewN | apply IsS66.drew | apply IsS66.set_2 | apply IsS66.set_1) | exact HI0.out)) : P := h
theorem z272_ {P : Prop} (h : P := by repeat (first | (with_reducible first | exact HI0.out | apply IsS66.drewN | apply IsS66.drew | apply IsS66.set_2 | apply IsS66.set_1) | exact HI0.out)) : P := h
theorem z273_ {P : Prop} (h : P := by repeat (first | (with_reducible first | exact HI0.out | apply IsS66.drewN | apply IsS66.drew | apply IsS66.set_2 | apply IsS66.set_1) | exact HI0.out)) : P := h
theorem z274_ {P : Prop} (h : P := by repeat (first | (with_reducible first | exact HI0.out | apply IsS66.drewN | apply IsS66.drew | apply IsS66.set_2 | apply IsS66.set_1) | exact HI0.out)) : P := h
theorem z275_ {P : Prop} (h : P := by repeat (first | (with_reducible first | exact HI0.out | apply IsS66.drewN | apply IsS66.drew | apply IsS66.set_2 | apply IsS66.set_1) | exact HI0.out)) : P := h
theorem z276_ {P : Prop} (h : P := by repeat (first | (with_reducible first | exact HI0.out | apply IsS66.drewN | apply IsS66.drew | apply IsS66.set_2 | apply IsS66.set_1) | exact HI0.out)) : P := h
theorem z277_ {P : Prop} (h : P := by repeat (first | (with_reducible first | exact HI0.out | apply IsS66.drewN | apply IsS66.drew | apply IsS66.set_2 | apply IsS66.set_1) | exact HI0.out)) : P := h
theorem z278_ {P : Prop} (h : P := by repeat (first | (with_reducible first | exact HI0.out | apply IsS66.drewN | apply IsS66.drew | apply IsS66.set_2 | apply IsS66.set_1) | exact HI0.out)) : P := h
theorem z279_ {P : Prop} (h : P := by repeat (first | (with_reducible first | exact HI0.out | apply IsS66.drewN | apply IsS66.drew | apply IsS66.set_2 | apply IsS66.set_1) | exact HI0.out)) : P := h
theorem z280_ {P : Prop} (h : P := by repeat (first | (with_reducible first | exact HI0.out | apply IsS66.drewN | apply IsS66.drew | apply IsS66.set_2 | apply IsS66.set_1) | exact HI0.out)) : P := h
theorem z281_ {P : Prop} (h : P := by repeat (first | (with_reducible first | exact HI0.out | apply IsS66.drewN | apply IsS66.drew | apply IsS66.set_2 | apply IsS66.set_1) | exact HI0.out)) : P := h
theorem z282_ {P : Prop} (h : P := by repeat (first | (with_reducible first | exact HI0.out | apply IsS66.drewN | apply IsS66.drew | apply IsS66.set_2 | apply IsS66.set_1) | exact HI0.out)) : P := h
theorem z283_ {P : Prop} (h : P := by repeat (first | (with_reducible first | exact HI0.out | apply IsS66.drewN | apply IsS66.drew | apply IsS66.set_2 | apply IsS66.set_1) | exact HI0.out)) : P := h
theorem z284_ {P : Prop} (h : P := by repeat (first | (with_reducible first | exact HI0.out | apply IsS66.drewN | apply IsS66.drew | apply IsS66.set_2 | apply IsS66.set_1) | exact HI0.out)) : P := h
theorem z285_ {P : Prop} (h : P := by repeat (first | (with_reducible first | exact HI0.out | apply IsS66.drewN | apply IsS66.drew | apply IsS66.set_2 | apply IsS66.set_1) | exact HI0.out)) : P := h
theorem z286_ {P : Prop} (h : P := by repeat (first | (with_reducible first | exact HI0.out | apply IsS66.drewN | apply IsS66.drew | apply IsS66.set_2 | apply IsS66.set_1) | exact HI0.out)) : P := h
theorem z287_ {P : Prop} (h : P := by repeat (first | (with_reducible first | exact HI0.out | apply IsS66.drewN | apply IsS66.drew | apply IsS66.set_2 | apply IsS66.set_1) | exact HI0.out)) : P := h
theorem z288_ {P : Prop} (h : P := by repeat (first | (with_reducible first | exact HI0.out | apply IsS66.drewN | apply IsS66.drew | apply IsS66.set_2 | apply IsS66.set_1) | exact HI0.out)) : P := h
theorem z289_ {P : Prop} (h : P := by repeat (first | (with_reducible first | exact HI0.out | apply IsS66.drewN | apply IsS66.drew | apply IsS66.set_2 | apply IsS66.set_1) | exact HI0.out)) : P := h
theorem z290_ {P : Prop} (h : P := by repeat (first | (with_reducible first | exact HI0.out | apply IsS66.drewN | apply IsS66.drew | apply IsS66.set_2 | apply IsS66.set_1) | exact HI0.out)) : P := h
theorem z291_ {P : Prop} (h : P := by repeat (first | (with_reducible first | exact HI0.out | apply IsS66.drewN | apply IsS66.drew | apply IsS66.set_2 | apply IsS66.set_1) | exact HI0.out)) : P := h
theorem z292_ {P : Prop} (h : P := by repeat (first | (with_reducible first | exact HI0.out | apply IsS66.drewN | apply IsS66.drew | apply IsS66.set_2 | apply IsS66.set_1) | exact HI0.out)) : P := h
theorem z293_ {P : Prop} (h : P := by repeat (first | (with_reducible first | exact HI0.out | apply IsS66.drewN | apply IsS66.drew | apply IsS66.set_2 | apply IsS66.set_1) | exact HI0.out)) : P := h
theorem z294_ {P : Prop} (h : P := by repeat (first | (with_reducible first | exact HI0.out | apply IsS66.drewN | apply IsS66.drew | apply IsS66.set_2 | apply IsS66.set_1) | exact HI0.out)) : P := h
theorem z295_ {P : Prop} (h : P := by repeat (first | (with_reducible first | exact HI0.out | apply IsS66.drewN | apply IsS66.drew | apply IsS66.set_2 | apply IsS66.set_1) | exact HI0.out)) : P := h
theorem z296_ {P : Prop} (h : P := by repeat (first | (with_reducible first | exact HI0.out | apply IsS66.drewN | apply IsS66.drew | apply IsS66.set_2 | apply IsS66.set_1) | exact HI0.out)) : P := h
theorem z297_ {P : Prop} (h : P := by repeat (first | (with_reducible first | exact HI0.out | apply IsS66.drewN | apply IsS66.drew | apply IsS66.set_2 | apply IsS66.set_1) | exact HI0.out)) : P := h
theorem z298_ {P : Prop} (h : P := by repeat (first | (with_reducible first | exact HI0.out | apply IsS66.drewN | apply IsS66.drew | apply IsS66.set_2 | apply IsS66.set_1) | exact HI0.out)) : P := h
theorem z299_ {P : Prop} (h : P := by repeat (first | (with_reducible first | exact HI0.out | apply IsS66.drewN | apply IsS66.drew | apply IsS66.set_2 | apply IsS66.set_1) | exact HI0.out)) : P := h
end

end Go.Proofs.Ytfbclbbhomhfaaa.X
end

section
namespace Go.Proofs.Ytfbclbbhomhfaaa.X
open Go.RowKit Go.Proofs.YtfbclbbhomhfaaaW.PrintWords Go.Proofs.YtfbclbbhomhfaaaW.PrintLast Go.Proofs.YtfbclbbhomhfaaaW.PrintMore
attribute [local go_sem] max2_int min2_int max_two min_two max_three min_three max_four min_four

section
def errW : Option Int → Value
 | none => .nilIface
 | some c => .iface 0 (.int .i64 c)
theorem errW_none : errW none = .nilIface := rfl
theorem errW_some (c : Int) : errW (some c) = .iface 0 (.int .i64 c) := rfl

theorem info3 : (Try.prog.info? 3).map (fun i => (i.zero, i.size, i.bytes)) = some (some (.int .i64 0), 1, 8) := by kernel_rfl
theorem info9 : (Try.prog.info? 9).map (fun i => (i.zero, i.size, i.bytes)) = some (some (.string ⟨#[]⟩), 1, 16) := by kernel_rfl
theorem info24 : (Try.prog.info? 24).map (fun i => (i.zero, i.size, i.bytes)) = some (some (.agg #[(.int .i64 0), (.int .i64 0), (.string ⟨#[]⟩)]), 3, 32) := by kernel_rfl
theorem info25 : (Try.prog.info? 25).map (fun i => (i.zero, i.size, i.bytes)) = some (some (.slice none 0 0), 1, 24) := by kernel_rfl
-- the values' own types
/-! #### struct type 24 -/
structure S24 where
 f0 : Int
 f1 : Int
 f2 : ByteArray
def z24 : S24 := ⟨(0 : Int), (0 : Int), (⟨#[]⟩ : ByteArray)⟩
def k24 : Kd S24 := Kd.iso (Kd.pair (Kd.int .i64) (Kd.pair (Kd.int .i64) Kd.string)) (fun x : S24 => (x.f0, x.f1, x.f2))
theorem k24_open {w : World} {x : S24} {cs : List Value} (h : k24.K w x cs) : cs = [.int .i64 x.f0, .int .i64 x.f1, .string x.f2] := by
 obtain ⟨_, _, rfl, rfl, ⟨_, _, rfl, rfl, rfl⟩⟩ := h
 exact rfl
theorem k24_openM {w : World} {base : Nat} {ok : Nat → Prop} {x : S24} {cs : List Value} (h : k24.M w base ok x cs) : cs = [.int .i64 x.f0, .int .i64 x.f1, .string x.f2] := by
 obtain ⟨_, _, rfl, rfl, ⟨_, _, rfl, rfl, rfl⟩⟩ := h
 exact rfl
theorem k24_mk (w : World) (x : S24)  : k24.K w x [.int .i64 x.f0, .int .i64 x.f1, .string x.f2] := ⟨[.int .i64 x.f0], [.int .i64 x.f1, .string x.f2], rfl, rfl, ⟨[.int .i64 x.f1], [.string x.f2], rfl, rfl, rfl⟩⟩
theorem k24_mkM (w : World) (base : Nat) (ok : Nat → Prop) (x : S24)  : k24.M w base ok x [.int .i64 x.f0, .int .i64 x.f1, .string x.f2] := ⟨[.int .i64 x.f0], [.int .i64 x.f1, .string x.f2], rfl, rfl, ⟨[.int .i64 x.f1], [.string x.f2], rfl, rfl, rfl⟩⟩
def rd_T24 (xs : List S24) (i : Int) : S24 := xs.getD i.toNat z24
theorem at_T24 {w : World} {A : Option Addr} {n : Nat} {xs : List S24} (h : Kd.C k24 w A n xs) (i : Int) (h0 : 0 ≤ i) (h1 : i < n) : ∃ ad , A = some ad ∧ w.cell? (ad.add (i.toNat * 3)) = some (.int .i64 (rd_T24 xs i).f0) ∧ w.cell? ⟨(ad.add (i.toNat * 3)).block, (ad.add (i.toNat * 3)).off + 1, none⟩ = some (.int .i64 (rd_T24 xs i).f1) ∧ w.cell? ⟨(ad.add (i.toNat * 3)).block, (ad.add (i.toNat * 3)).off + 2, none⟩ = some (.string (rd_T24 xs i).f2) := by
 obtain ⟨ad, c, e, _, hK, hc0⟩ := Kd.C_get h z24 i h0 h1
 have hc : ∀ j u, c[j]? = some u → w.cell? (ad.add (i.toNat * 3 + j)) = some u := hc0
 obtain rfl := k24_open hK
 exact ⟨ad, e, hc 0 _ rfl, by rw [← add_field _ _ 1 (by omega)]; exact hc 1 _ rfl, by rw [← add_field _ _ 2 (by omega)]; exact hc 2 _ rfl⟩

def rd_L4 (xs : List (List S24)) (i : Int) : (List S24) := xs.getD i.toNat ([] : List S24)
theorem at_L4 {w : World} {A : Option Addr} {n : Nat} {xs : List (List S24)} (h : Kd.C (Kd.slice 24 k24) w A n xs) (i : Int) (h0 : 0 ≤ i) (h1 : i < n) : ∃ ad A0 c0, A = some ad ∧ w.cell? (ad.add i.toNat) = some (.slice A0 (rd_L4 xs i).length c0) ∧ (rd_L4 xs i).length ≤ c0 ∧ k24.C w A0 (rd_L4 xs i).length (rd_L4 xs i) := by
 obtain ⟨ad, c, e, _, hK, hc0⟩ := Kd.C_get h ([] : List S24) i h0 h1
 have hc : ∀ j u, c[j]? = some u → w.cell? (ad.add (i.toNat * 1 + j)) = some u := hc0
 obtain ⟨A0, c0, rfl, l0, g0⟩ := hK
 exact ⟨ad, A0, c0, e, by have hq := hc 0 _ rfl; rwa [Nat.mul_one, Nat.add_zero] at hq, l0, g0⟩
end

section
/-- Whatever reads as data of type t is told by the kind k, and Q holds of it. -/
def Opn {α : Type} (P : Program) (k : Kd α) (t : TypeId) (Q : α → Prop) : Prop :=
 ∀ (H : Type) (enc : TypeId × Value → H) (w : World) (base : Nat) (spare : Nat → Bool) (held : Bool) (fuel : Nat) (cs : List Value) (x : DataW H × List MemPlace),
  DataW.trod enc P w base spare held fuel t cs = some x → ∃ v, k.K w v cs ∧ Q v
theorem Opn.int {P : Program} {t : TypeId} {ik : IntKind} (h : P.underlying t = some (.int ik)) : Opn P (Kd.int ik) t (fun n => (Lit.int ik n).wf = true) := by
 intro H enc w base spare held fuel cs x hx
 obtain ⟨n, rfl, _, hw⟩ := DataW.trod_int h hx
 exact ⟨n, rfl, hw⟩
theorem Opn.bool {P : Program} {t : TypeId} (h : P.underlying t = some .bool) : Opn P Kd.bool t (fun _ => True) := by
 intro H enc w base spare held fuel cs x hx
 obtain ⟨n, rfl, _⟩ := DataW.trod_bool h hx
 exact ⟨n, rfl, trivial⟩
theorem Opn.string {P : Program} {t : TypeId} (h : P.underlying t = some .string) : Opn P Kd.string t (fun s => s.size ≤ maxLen) := by
 intro H enc w base spare held fuel cs x hx
 obtain ⟨n, rfl, _, hs⟩ := DataW.trod_string h hx
 exact ⟨n, rfl, hs⟩
theorem list_of_fn {α : Type} (n : Nat) (p : Nat → α → Prop) (h : ∀ i, i < n → ∃ x, p i x) : ∃ l : List α, l.length = n ∧ ∀ i (hi : i < l.length), p i l[i] := by
 induction n with
 | zero => exact ⟨[], rfl, fun i hi => absurd hi (by simp)⟩
 | succ n ih =>
  obtain ⟨l, hl, hp⟩ := ih (fun i hi => h i (by omega))
  obtain ⟨x, hx⟩ := h n (by omega)
  refine ⟨l ++ [x], by simp [hl], fun i hi => ?_⟩
  by_cases hin : i < l.length
  ·rw [List.getElem_append_left hin]; exact hp i hin
  have : i = l.length := by simp at hi; omega
  subst this
  simp only [List.getElem_concat_length, hl]
  exact hx
theorem cells?_get {w : World} {base : Nat} {a : Addr} {n : Nat} {cs : List Value} (h : w.cells? base a n = some cs) : cs.length = n ∧ ∀ j u, cs[j]? = some u → w.cell? (a.add j) = some u := by
 obtain ⟨_, hl, hc⟩ := World.cells?_some h
 refine ⟨hl, fun j u hu => ?_⟩
 have hj : j < cs.length := by
  rcases Nat.lt_or_ge j cs.length with h | h
  ·exact h
  ·rw [List.getElem?_eq_none h] at hu; cases hu
 rw [hc j (by omega)]; exact hu
theorem Opn.slice {α : Type} {P : Program} {t e : TypeId} {d : Kd α} {Q : α → Prop} (h : P.underlying t = some (.slice e)) (hsz : P.cellsOf e = d.sz) (hd : Opn P d e Q) :
  Opn P (Kd.slice e d) t (fun l => l.length ≤ maxLen ∧ ∀ x ∈ l, Q x) := by
 intro H enc w base spare held fuel cs x hx
 rcases Go.Deep.open_slice h hx with ⟨rfl, _⟩ | ⟨a, len, cap, m, n, D, Pl, rfl, _, hl, hm, hmm, _, hall⟩
 ·exact ⟨[], ⟨none, 0, rfl, Nat.le_refl _, rfl, by simp, fun hp => absurd hp (by simp)⟩, by simp, fun x hx => by cases hx⟩
 have hlm : len ≤ m := by rw [hmm]; split <;> omega
 obtain ⟨l, hlen, hp⟩ := list_of_fn len (fun i v => ∃ cs', w.cells? base (a.add (i * P.cellsOf e)) (P.cellsOf e) = some cs' ∧ d.K w v cs' ∧ Q v) (fun i hi => by
  obtain ⟨cs', hc, ht⟩ := hall i (by omega)
  obtain ⟨v, hv, hq⟩ := hd H enc w base spare held n cs' _ ht
  exact ⟨v, cs', hc, hv, hq⟩)
 subst hlen
 refine ⟨l, ⟨some a, cap, rfl, hl, rfl, by simp only [maxLen] at hm; omega, fun _ => ⟨a, rfl, fun i y hy => ?_⟩⟩, by omega, fun x hx => ?_⟩
 rotate_left
 ·obtain ⟨i, hi, rfl⟩ := List.getElem_of_mem hx
  obtain ⟨_, _, _, hq⟩ := hp i hi
  exact hq
 obtain ⟨hi, rfl⟩ := List.getElem?_eq_some_iff.1 hy
 obtain ⟨cs', hc, hv, _⟩ := hp i hi
 obtain ⟨h1, h2⟩ := cells?_get hc
 refine ⟨cs', by rw [h1, hsz], hv, fun j u hu => ?_⟩
 rw [← Go.Deep.add_add, ← hsz]; exact h2 j u hu
theorem Opn.iso {α β : Type} {P : Program} {t : TypeId} {d : Kd α} {Q : α → Prop} (f : β → α) (hf : ∀ v, ∃ x, f x = v) (hd : Opn P d t Q) : Opn P (Kd.iso d f) t (fun x => Q (f x)) := by
 intro H enc w base spare held fuel cs x hx
 obtain ⟨v, hv, hq⟩ := hd H enc w base spare held fuel cs x hx
 obtain ⟨y, rfl⟩ := hf v
 exact ⟨y, hv, hq⟩
/-- The fields of a struct from the cell off on. -/
def FOpn {α : Type} (P : Program) (k : Kd α) (fs : List Field) (off : Nat) (Q : α → Prop) : Prop :=
 ∀ (H : Type) (enc : TypeId × Value → H) (w : World) (base : Nat) (spare : Nat → Bool) (held : Bool) (fuel : Nat) (cs : List Value),
  (∀ f ∈ fs, ∃ x, DataW.trod enc P w base spare held fuel f.type ((cs.drop f.offset).take (P.cellsOf f.type)) = some x) → cs.length = off + k.sz → ∃ v, k.K w v (cs.drop off) ∧ Q v
theorem FOpn.one {α : Type} {P : Program} {k : Kd α} {f : Field} {off : Nat} {Q : α → Prop} (ho : f.offset = off) (hs : P.cellsOf f.type = k.sz) (hd : Opn P k f.type Q) : FOpn P k [f] off Q := by
 intro H enc w base spare held fuel cs hall hlen
 obtain ⟨x, hx⟩ := hall f (by simp)
 rw [ho, hs, List.take_of_length_le (by rw [List.length_drop]; omega)] at hx
 exact hd H enc w base spare held fuel _ x hx
theorem FOpn.cons {α β : Type} {P : Program} {k : Kd α} {k2 : Kd β} {f : Field} {fs : List Field} {off : Nat} {Q : α → Prop} {Q2 : β → Prop} (ho : f.offset = off) (hs : P.cellsOf f.type = k.sz) (hd : Opn P k f.type Q)
  (hr : FOpn P k2 fs (off + k.sz) Q2) : FOpn P (Kd.pair k k2) (f :: fs) off (fun v => Q v.1 ∧ Q2 v.2) := by
 intro H enc w base spare held fuel cs hall hlen
 obtain ⟨x, hx⟩ := hall f (by simp)
 rw [ho, hs] at hx
 obtain ⟨v, hv, hq⟩ := hd H enc w base spare held fuel _ x hx
 have hl2 : cs.length = off + k.sz + k2.sz := by rw [hlen]; exact (Nat.add_assoc _ _ _).symm
 obtain ⟨v2, hv2, hq2⟩ := hr H enc w base spare held fuel cs (fun g hg => hall g (List.mem_cons_of_mem _ hg)) hl2
 refine ⟨(v, v2), ⟨_, _, ?_, hv, hv2⟩, hq, hq2⟩
 rw [← List.drop_drop, List.take_append_drop]
theorem Opn.struct {α : Type} {P : Program} {t : TypeId} {fs : Array Field} {k : Kd α} {Q : α → Prop} (h : P.underlying t = some (.struct fs)) (hsz : P.cellsOf t = k.sz) (hd : FOpn P k fs.toList 0 Q) : Opn P k t Q := by
 intro H enc w base spare held fuel cs x hx
 obtain ⟨xs, n, rfl, _, hl, hxl, hall⟩ := DataW.trod_struct h hx
 have := hd H enc w base spare held n cs (fun f hf => by
  obtain ⟨i, hi, rfl⟩ := List.getElem_of_mem hf
  have hi' : i < fs.size := by simpa using hi
  have e := hall i fs[i] (by simp [hi'])
  refine ⟨xs[i]'(by omega), ?_⟩
  rw [Array.getElem_toList, e, List.getElem?_eq_getElem (by omega)]) (by omega)
 simpa using this
end

section
theorem eqA24 (d : Nat) (w : World) (x0 y0 : Int) (x1 y1 : Int) (x2 y2 : ByteArray) :
  (Op.equalIn (d + 2) 24 (.agg #[.int .i64 x0, .int .i64 x1, .string x2]) (.agg #[.int .i64 y0, .int .i64 y1, .string y2])).run Try.prog w = .ok (x0 == y0 && (x1 == y1 && (x2.toList == y2.toList))) w := by
 refine eqA_of Try.underlying24 (by kernel_rfl) ?_
 refine eqf_cons (by rfl) (by go_simp; rfl) (by go_simp; rfl) (by go_simp) ?_
 refine eqf_cons (by rfl) (by go_simp; rfl) (by go_simp; rfl) (by go_simp) ?_
 exact eqf_last (by rfl) (by go_simp; rfl) (by go_simp; rfl) (by go_simp)
end

section
/-- A state of type 66 at block g of W; what its slices lead to came in by w0. -/
def IsS66 (w0 W : World) (g : Nat) (f0 : List Int) (f1 : Int) (f2 : Int) : Prop := ∃ A0 c0, W.heap[g]? = some (.cells #[.slice A0 f0.length c0, .int .i64 f1, .int .i64 f2] 66 (0, 0)) ∧ w0.heap.size ≤ g ∧ Kd.C (Kd.int .u8) w0 A0 f0.length f0
theorem IsS66.grown {w0 W : World} {g : Nat} {f0 : List Int} {f1 : Int} {f2 : Int} {W1 : World} {row : Option Nat} (h : IsS66 w0 W g f0 f1 f2) (hw : W.grownBy W1 row) (hne : some g ≠ row) : IsS66 w0 W1 g f0 f1 f2 := by
 obtain ⟨A0, c0, hb, hg, hr0⟩ := h
 exact ⟨A0, c0, blk_grown hb hw hne, hg, hr0⟩
theorem IsS66.own_neN {w0 W : World} {g : Nat} {f0 : List Int} {f1 : Int} {f2 : Int} {α : Type} {d : Kd α} {e : Nat} {base : Nat} {ok : Nat → Prop} {v : Value} {xs : List α} (h : IsS66 w0 W g f0 f1 f2) (ho : Kd.N d e W base ok v xs) (ht : e ≠ 66) : some g ≠ v.ownBlock := by
 obtain ⟨A0, c0, hb, hg, hr0⟩ := h
 exact Kd.N_ne ho hb ht
theorem IsS66.fresh {w0 W : World} {g : Nat} {f0 : List Int} {f1 : Int} {f2 : Int} (h : IsS66 w0 W g f0 f1 f2) : ∀ k, W.heap.size ≤ k → k ≠ g := by
 obtain ⟨A0, c0, hb, hg, hr0⟩ := h
 exact Kd.freshB hb
theorem IsS66.kept {w0 W : World} {g : Nat} {f0 : List Int} {f1 : Int} {f2 : Int} {W1 : World} {S : Nat → Prop} (h : IsS66 w0 W g f0 f1 f2) (hk : Kept W W1 S) (hne : ¬ S g) : IsS66 w0 W1 g f0 f1 f2 := by
 obtain ⟨A0, c0, hb, hg, hr0⟩ := h
 exact ⟨A0, c0, blk_kept hb hk hne, hg, hr0⟩
theorem IsS66.below {w0 W : World} {g : Nat} {f0 : List Int} {f1 : Int} {f2 : Int} {W1 : World} (h : IsS66 w0 W g f0 f1 f2) (hw : Below W.heap.size W W1) : IsS66 w0 W1 g f0 f1 f2 := h.grown (grown_of_below hw none) (by simp)
theorem IsS66.alloc {w0 W : World} {g : Nat} {f0 : List Int} {f1 : Int} {f2 : Int} (h : IsS66 w0 W g f0 f1 f2) (o : Obj) : IsS66 w0 (W.alloc o) g f0 f1 f2 := h.below (below_alloc (Below.refl _ _) o)
theorem IsS66.drewN {w0 W : World} {g : Nat} {f0 : List Int} {f1 : Int} {f2 : Int} (h : IsS66 w0 W g f0 f1 f2) (m : Nat) : IsS66 w0 (W.drewN m) g f0 f1 f2 := h
theorem IsS66.drew {w0 W : World} {g : Nat} {f0 : List Int} {f1 : Int} {f2 : Int} (h : IsS66 w0 W g f0 f1 f2) : IsS66 w0 W.drew g f0 f1 f2 := h
theorem IsS66.at_ {w0 W : World} {g : Nat} {f0 : List Int} {f1 : Int} {f2 : Int} {w' : World} {m : Nat} (hq : W.drewN m = w') (h : IsS66 w0 W g f0 f1 f2) : IsS66 w0 w' g f0 f1 f2 := by subst hq; exact IsS66.drewN h m
theorem IsS66.apart {w0 W : World} {g : Nat} {f0 : List Int} {f1 : Int} {f2 : Int} {α : Type} {d : Kd α} {e : Nat} {base : Nat} {ok : Nat → Prop} {v : Value} {xs : List α} (h : IsS66 w0 W g f0 f1 f2) (ho : d.R e W base ok v xs) (ht : ∀ q, q ∈ e :: d.E → q ≠ 66) : d.R e W base (fun k => ok k ∧ k ≠ g) v xs := by
 obtain ⟨A0, c0, hb, hg, hr0⟩ := h
 exact Kd.R_types ho hb ht
theorem IsS66.own_ne {w0 W : World} {g : Nat} {f0 : List Int} {f1 : Int} {f2 : Int} {α : Type} {d : Kd α} {e : Nat} {base : Nat} {ok : Nat → Prop} {v : Value} {xs : List α} (h : IsS66 w0 W g f0 f1 f2) (ho : d.R e W base ok v xs) (ht : e ≠ 66) : some g ≠ v.ownBlock := by
 obtain ⟨A0, c0, hb, hg, hr0⟩ := h
 exact Kd.R_ne ho hb ht
theorem IsS66.apartQ {w0 W : World} {g : Nat} {f0 : List Int} {f1 : Int} {f2 : Int} {α : Type} {d : Kd α} {e : Nat} {base : Nat} {ok : Nat → Prop} {v : Value} {xs : List α} (h : IsS66 w0 W g f0 f1 f2) (ho : d.Q e W base ok v xs) (ht : ∀ q, q ∈ e :: d.E → q ≠ 66) : d.Q e W base (fun k => ok k ∧ k ≠ g) v xs := by
 obtain ⟨A0, c0, hb, hg, hr0⟩ := h
 exact Kd.Q_types ho hb ht
theorem IsS66.own_neQ {w0 W : World} {g : Nat} {f0 : List Int} {f1 : Int} {f2 : Int} {α : Type} {d : Kd α} {e : Nat} {base : Nat} {ok : Nat → Prop} {v : Value} {xs : List α} (h : IsS66 w0 W g f0 f1 f2) (ho : d.Q e W base ok v xs) (ht : e ≠ 66) : some g ≠ v.ownBlock := by
 obtain ⟨A0, c0, hb, hg, hr0⟩ := h
 exact Kd.Q_ne ho hb ht
theorem IsS66.apartS {w0 W : World} {g : Nat} {f0 : List Int} {f1 : Int} {f2 : Int} {α : Type} {d : Kd α} {e : Nat} {base : Nat} {ok : Nat → Prop} {v : Value} {xs : List α} (h : IsS66 w0 W g f0 f1 f2) (ho : d.S e W base ok v xs) (ht : ∀ q, q ∈ e :: d.E → q ≠ 66) : d.S e W base (fun k => ok k ∧ k ≠ g) v xs := by
 obtain ⟨A0, c0, hb, hg, hr0⟩ := h
 exact Kd.S_types ho hb ht
theorem IsS66.own_neS {w0 W : World} {g : Nat} {f0 : List Int} {f1 : Int} {f2 : Int} {α : Type} {d : Kd α} {e : Nat} {base : Nat} {ok : Nat → Prop} {v : Value} {xs : List α} (h : IsS66 w0 W g f0 f1 f2) (ho : d.S e W base ok v xs) (ht : e ≠ 66) : some g ≠ v.ownBlock := by
 obtain ⟨A0, c0, hb, hg, hr0⟩ := h
 exact Kd.S_ne ho hb ht
theorem IsS66.lt {w0 W : World} {g : Nat} {f0 : List Int} {f1 : Int} {f2 : Int} (h : IsS66 w0 W g f0 f1 f2) : g < W.heap.size := by
 obtain ⟨A0, c0, hb, hg, hr0⟩ := h
 exact blk_lt hb
theorem IsS66.ge {w0 W : World} {g : Nat} {f0 : List Int} {f1 : Int} {f2 : Int} (h : IsS66 w0 W g f0 f1 f2) : w0.heap.size ≤ g := by
 obtain ⟨A0, c0, hb, hg, hr0⟩ := h
 exact hg
theorem IsS66.ne_blk {w0 W : World} {g : Nat} {f0 : List Int} {f1 : Int} {f2 : Int} {a : Nat} {cs : Array Value} {t : TypeId} {fr : Nat × Nat} (h : IsS66 w0 W g f0 f1 f2) (hb2 : W.heap[a]? = some (.cells cs t fr)) (ht : t ≠ 66) : g ≠ a := by
 obtain ⟨A0, c0, hb, hg, hr0⟩ := h
 rintro rfl
 rw [hb] at hb2
 injection hb2 with hb2
 injection hb2 with _ ht2
 exact ht ht2.symm
theorem IsS66.far {w0 W : World} {g : Nat} {f0 : List Int} {f1 : Int} {f2 : Int} {p : Addr} (h : IsS66 w0 W g f0 f1 f2) (hne : g ≠ p.block) (u : Value) : IsS66 w0 (W.setCell p u) g f0 f1 f2 := by
 obtain ⟨A0, c0, hb, hg, hr0⟩ := h
 exact ⟨A0, c0, blk_far hb hne u, hg, hr0⟩
theorem cellS66_0 {W : World} {g : Nat} {A0 : Option Addr} {c0 : Nat} {f0 : List Int} {f1 : Int} {f2 : Int} (h : W.heap[g]? = some (.cells #[.slice A0 f0.length c0, .int .i64 f1, .int .i64 f2] 66 (0, 0))) : W.cell? ⟨g, 0, none⟩ = some (.slice A0 f0.length c0) := (blk_cell h 0).trans rfl
theorem cellS66_1 {W : World} {g : Nat} {A0 : Option Addr} {c0 : Nat} {f0 : List Int} {f1 : Int} {f2 : Int} (h : W.heap[g]? = some (.cells #[.slice A0 f0.length c0, .int .i64 f1, .int .i64 f2] 66 (0, 0))) : W.cell? ⟨g, 1, none⟩ = some (.int .i64 f1) := (blk_cell h 1).trans rfl
theorem IsS66.set_1 {w0 W : World} {g : Nat} {f0 : List Int} {f1 : Int} {f2 : Int} (h : IsS66 w0 W g f0 f1 f2) (x : Int) : IsS66 w0 (W.setCell ⟨g, 1, none⟩ (.int .i64 x)) g f0 x f2 := by
 obtain ⟨A0, c0, hb, hg, hr0⟩ := h
 exact ⟨A0, c0, by simpa using blk_set hb 1 (.int .i64 x), hg, hr0⟩
theorem cellS66_2 {W : World} {g : Nat} {A0 : Option Addr} {c0 : Nat} {f0 : List Int} {f1 : Int} {f2 : Int} (h : W.heap[g]? = some (.cells #[.slice A0 f0.length c0, .int .i64 f1, .int .i64 f2] 66 (0, 0))) : W.cell? ⟨g, 2, none⟩ = some (.int .i64 f2) := (blk_cell h 2).trans rfl
theorem IsS66.set_2 {w0 W : World} {g : Nat} {f0 : List Int} {f1 : Int} {f2 : Int} (h : IsS66 w0 W g f0 f1 f2) (x : Int) : IsS66 w0 (W.setCell ⟨g, 2, none⟩ (.int .i64 x)) g f0 f1 x := by
 obtain ⟨A0, c0, hb, hg, hr0⟩ := h
 exact ⟨A0, c0, by simpa using blk_set hb 2 (.int .i64 x), hg, hr0⟩
theorem IsS66.new (w0 W : World) (A0 : Option Addr) (c0 : Nat) (f0 : List Int) (f1 : Int) (f2 : Int) (hB : Below w0.heap.size w0 W) (hr0 : Kd.C (Kd.int .u8) w0 A0 f0.length f0) : IsS66 w0 (W.alloc (.cells #[.slice A0 f0.length c0, .int .i64 f1, .int .i64 f2] 66)) W.heap.size f0 f1 f2 := ⟨A0, c0, by simpa using heap_alloc_new W _, hB.size, hr0⟩

/-! ### spec_l00Source: function 23 -/
def spec_l00Source.f (l0 : List Int) : Option (List Int × Int × Int) := some (l0, 0, (l0.length : Int) % 1000)
theorem spec_l00Source.calls (A0 : Option Addr) (c0 : Nat) (l0 : List Int) (r1 : List Int) (r2 : Int) (r3 : Int) (w0 w : World) (hB : Below w0.heap.size w0 w) (hr0 : Kd.C (Kd.int .u8) w0 A0 l0.length l0) (hc0 : l0.length ≤ c0) (h : spec_l00Source.f l0 = some (r1, r2, r3)) :
  Calls Try.prog 23 #[.slice A0 l0.length c0] w fun e w' => ∃ g_ : Nat, e = .returned (.pointer (some ⟨g_, 0, none⟩)) ∧ IsS66 w0 w' g_ r1 r2 r3 ∧ Below w0.heap.size w0 w' ∧ Below w.heap.size w w' := by
 have hu66 := Try.underlying66
 have HR0 := ak_ hr0
 have HC0 := ak_ hc0
 clear hr0 hc0
 have HBW := ak_ (Below.refl w.heap.size w)
 have HW0 := ak_ hB.size
 have HB := ak_ hB
 clear hB
 have H : (some (l0, 0, (l0.length : Int) % 1000)) = some (r1, r2, r3) := h
 clear h
 simp only [Option.some.injEq, Prod.mk.injEq] at H
 obtain ⟨rfl, rfl, rfl⟩ := H
 go_enter Try.func23, Try.ntmps23
 go_wp2_with (first | ((with_reducible refine gate_dst (N := 8) rfl ?_); refine bx_ 8 (cs := #[.slice A0 l0.length c0, .int .i64 0, .int .i64 ((l0.length : Int) % 1000)]) (t := 66) (h_ := ?_); intro gb101 hg w2 hbox hb; have n_ := a5_ (below_step HBW.out hb) (below_step z0_ hb) (hbox) ((gs_ w hg (below_size (by repeat (first | (with_reducible first | exact HBW.out | apply below_alloc | apply pw_below_drewN | apply below_drew1) | exact HBW.out))))) ((Nat.le_trans HW0.out (gs_ w hg (below_size (by repeat (first | (with_reducible first | exact HBW.out | apply below_alloc | apply pw_below_drewN | apply below_drew1) | exact HBW.out)))) : w0.heap.size ≤ gb101)); clear HBW HB; obtain ⟨HBW, HB, BK101, GW101, GE101⟩ := n_; clear hb hbox hg))
 go_ret
 exact ⟨_, rfl, (show IsS66 w0 _ gb101 l0 0 ((l0.length : Int) % 1000) from ⟨_, _, z2_, GE101.out, HR0.out⟩), z1_, by repeat (first | (with_reducible first | exact HBW.out | apply below_alloc | apply pw_below_drewN | apply below_drew1 | refine below_set ?_ GW101.out) | exact HBW.out)⟩
end

section
theorem slice3_ {v : Value} {n : Nat} (h : ∃ A c, v = .slice A n c) : ∃ A n c, v = Value.slice A n c := by obtain ⟨A, c, h⟩ := h; exact ⟨A, n, c, h⟩
theorem own_addb (a : Addr) (i : Nat) : (a.add i).block = a.block := by unfold Addr.add; split <;> rfl
theorem own_other {w : World} {a b : Addr} {v : Value} (h : a ≠ b) : (w.setCell a v).cell? b = w.cell? b := World.cell?_setCell_other (h := h) ..
theorem own_same {w : World} {a : Addr} {u v : Value} (h : w.cell? a = some u) : (w.setCell a v).cell? a = some v := World.cell?_setCell_same (h := h) ..
def fIdx {α : Type} (p : α → Bool) (l : List α) : Int := match l.findIdx? p with | some i => (i : Int) | none => -1
theorem fIdx_hit {α : Type} (p : α → Bool) (l : List α) (k : Nat) (hk : k < l.length) (h : p l[k] = true) (hb : ∀ j, (hj : j < k) → p (l[j]'(by omega)) = false) : fIdx p l = k := by
 unfold fIdx
 rw [show l.findIdx? p = some k from by
  rw [List.findIdx?_eq_some_iff_getElem]
  exact ⟨hk, h, fun j hj => by rw [hb j hj]; simp⟩]
theorem fIdx_miss {α : Type} (p : α → Bool) (l : List α) (hb : ∀ j, (hj : j < l.length) → p l[j] = false) : fIdx p l = -1 := by
 unfold fIdx
 rw [show l.findIdx? p = none from by
  rw [List.findIdx?_eq_none_iff]
  intro x hx
  obtain ⟨j, hj, rfl⟩ := List.getElem_of_mem hx
  exact hb j hj]
theorem fIdx_any {α : Type} (p : α → Bool) (l : List α) : decide (0 ≤ fIdx p l) = l.any p := by
 unfold fIdx
 cases h : l.findIdx? p with
 | none =>
  rw [List.findIdx?_eq_none_iff] at h
  have : l.any p = false := by rw [List.any_eq_false]; intro x hx; rw [h x hx]; simp
  rw [this]; rfl
 | some i =>
  rw [List.findIdx?_eq_some_iff_getElem] at h
  obtain ⟨hi, hp, _⟩ := h
  have : l.any p = true := List.any_eq_true.2 ⟨_, List.getElem_mem hi, hp⟩
  rw [this]; simp
theorem C_len {α : Type} {d : Kd α} {w : World} {A : Option Addr} {n : Nat} {xs : List α} (h : Kd.C d w A n xs) : n ≤ 9223372036854775807 := by
 exact h.2.1
def anyO {α : Type} (p : α → Option Bool) (l : List α) : Option Bool := if l.all (fun x => (p x).isSome) = true then some (l.any fun x => (p x).getD false) else none
def idxO {α : Type} (p : α → Option Bool) (l : List α) : Option Int := if l.all (fun x => (p x).isSome) = true then some (fIdx (fun x => (p x).getD false) l) else none
theorem anyO_some {α : Type} {p : α → Option Bool} {l : List α} {r : Bool} (h : anyO p l = some r) : (∀ x ∈ l, (p x).isSome = true) ∧ (l.any fun x => (p x).getD false) = r := by
 unfold anyO at h
 split at h
 ·rename_i c; exact ⟨List.all_eq_true.1 c, Option.some.inj h⟩
 ·cases h
theorem idxO_some {α : Type} {p : α → Option Bool} {l : List α} {r : Int} (h : idxO p l = some r) : (∀ x ∈ l, (p x).isSome = true) ∧ fIdx (fun x => (p x).getD false) l = r := by
 unfold idxO at h
 split at h
 ·rename_i c; exact ⟨List.all_eq_true.1 c, Option.some.inj h⟩
 ·cases h
theorem getD_of {o : Option Bool} (h : o.isSome = true) : o = some (o.getD false) := by cases o <;> simp_all
theorem LeO_getD {p q : Option Bool} (h : LeO p q) (hp : p.isSome = true) : q = p := by
 obtain ⟨r, hr⟩ := Option.isSome_iff_exists.1 hp
 rw [hr]; exact h r hr
theorem anyO_mono {α : Type} {p q : α → Option Bool} (h : ∀ x, LeO (p x) (q x)) (l : List α) : LeO (anyO p l) (anyO q l) := by
 intro r hr
 obtain ⟨hall, rfl⟩ := anyO_some hr
 have e : ∀ x ∈ l, q x = p x := fun x hx => LeO_getD (h x) (hall x hx)
 unfold anyO
 rw [if_pos (List.all_eq_true.2 fun x hx => by rw [e x hx]; exact hall x hx)]
 congr 1
 rw [Bool.eq_iff_iff, List.any_eq_true, List.any_eq_true]
 exact ⟨fun ⟨x, hx, hq⟩ => ⟨x, hx, by rw [← e x hx]; exact hq⟩, fun ⟨x, hx, hq⟩ => ⟨x, hx, by rw [e x hx]; exact hq⟩⟩
theorem idxO_mono {α : Type} {p q : α → Option Bool} (h : ∀ x, LeO (p x) (q x)) (l : List α) : LeO (idxO p l) (idxO q l) := by
 intro r hr
 obtain ⟨hall, rfl⟩ := idxO_some hr
 have e : ∀ x ∈ l, q x = p x := fun x hx => LeO_getD (h x) (hall x hx)
 unfold idxO
 rw [if_pos (List.all_eq_true.2 fun x hx => by rw [e x hx]; exact hall x hx)]
 congr 1
 unfold fIdx
 have : ∀ l : List α, (∀ x ∈ l, q x = p x) → l.findIdx? (fun x => (q x).getD false) = l.findIdx? (fun x => (p x).getD false) := by
  intro l
  induction l with
  | nil => intro _; rfl
  | cons a l ih => intro hl; rw [List.findIdx?_cons, List.findIdx?_cons, hl a (by simp), ih (fun x hx => hl x (by simp [hx]))]
 rw [this l e]
end

section
/-! ### spec_l00Src_byte: function 73 -/
-- XIMP Derived.BigRegion
-- XIMP Derived.IntWalk
def spec_l00Src_byte.f (c : List Int) (a s : Int) : Option (Int × Int × Int) :=
 if 0 ≤ a ∧ a ≤ 4611686018427387904 ∧ 0 ≤ s ∧ s < 2147483648 then
  (if a < c.length then (if 0 ≤ rd c a ∧ rd c a ≤ 255 then some (rd c a, a + 1, (s * 31 + rd c a + 7) % 2147483648) else none)
  else if 3000 < a + 1 then some (0, a + 1, s) else some ((s * 1103515245 + 12345) % 2147483648 / 65536 % 256, a + 1, (s * 1103515245 + 12345) % 2147483648))
 else none
theorem spec_l00Src_byte.calls (g : Nat) (s0_0 : List Int) (s0_1 : Int) (s0_2 : Int) (r1 : Int) (r2 : Int) (r3 : Int) (w0 w : World) (hI : IsS66 w0 w g s0_0 s0_1 s0_2) (hB : Below w0.heap.size w0 w) (h : spec_l00Src_byte.f s0_0 s0_1 s0_2 = some (r1, r2, r3)) :
  Calls Try.prog 73 #[.pointer (some ⟨g, 0, none⟩)] w fun e w' => e = .returned (.int .i64 r1) ∧ IsS66 w0 w' g s0_0 r2 r3 ∧ Below w0.heap.size w0 w' ∧ KeepBut w w' g none := by
 by_cases hr : 0 ≤ s0_1 ∧ s0_1 ≤ 4611686018427387904 ∧ 0 ≤ s0_2 ∧ s0_2 < 2147483648
 case neg => exact absurd h (by unfold spec_l00Src_byte.f; rw [if_neg hr]; simp)
 have h1 := h
 unfold spec_l00Src_byte.f at h1
 rw [if_pos hr] at h1
 obtain ⟨ha0, ha1, hs0, hs1⟩ := hr
 have HI0 := ak_ hI
 have HK := ak_ (KeepBut.refl w g none)
 have HB := ak_ hB
 have H := ak_ h1
 clear h h1
 obtain ⟨A0, c0, Hg, hg, HC⟩ := hI
 have hcz4_0 := cellS66_0 Hg
 have hcz4_1 := cellS66_1 Hg
 have hcz4_2 := cellS66_2 Hg
 have hfz4_1 := blk_frozen Hg 1
 have hfz4_2 := blk_frozen Hg 2
 clear Hg
 by_cases hlt : s0_1 < (s0_0.length : Int)
 rotate_left
 ·have h1 := H.out
  clear H
  rw [if_neg hlt] at h1
  have H2 := ak_ hg
  have hlt' : ¬ (s0_1 + 1 ≤ (s0_0.length : Int)) := by omega
  have hd0 : (w.setCell ⟨g, 1, none⟩ (.int .i64 (s0_1 + 1))).cell? ⟨g, 0, none⟩ = some (.slice A0 s0_0.length c0) := by rw [own_other (by simp)]; exact hcz4_0
  have hd1 : (w.setCell ⟨g, 1, none⟩ (.int .i64 (s0_1 + 1))).cell? ⟨g, 1, none⟩ = some (.int .i64 (s0_1 + 1)) := own_same hcz4_1
  have hd2 : (w.setCell ⟨g, 1, none⟩ (.int .i64 (s0_1 + 1))).cell? ⟨g, 2, none⟩ = some (.int .i64 s0_2) := by rw [own_other (by simp)]; exact hcz4_2
  clear hg HC hB
  by_cases hbig : 3000 < s0_1 + 1
  ·rw [if_pos hbig] at h1
   simp only [Option.some.injEq, Prod.mk.injEq] at h1
   obtain ⟨rfl, rfl, rfl⟩ := h1
   go_enter Try.func73, Try.ntmps73
   go_wp2
   go_quiet (fail)
   go_wp2
   go_ret
   exact ⟨rfl, by repeat (first | (with_reducible first | exact HI0.out | apply IsS66.drewN | apply IsS66.drew | apply IsS66.set_2 | apply IsS66.set_1) | exact HI0.out),
    by repeat (first | (with_reducible first | exact HB.out | apply pw_below_drewN | apply below_drew1 | refine below_set ?_ H2.out) | exact HB.out),
    by repeat (first | (with_reducible first | exact HK.out | apply KeepBut.set_ | apply keep_drewN | apply keep_drew) | exact HK.out)⟩
  ·rw [if_neg hbig] at h1
   simp only [Option.some.injEq, Prod.mk.injEq] at h1
   obtain ⟨rfl, rfl, rfl⟩ := h1
   go_enter Try.func73, Try.ntmps73
   go_wp2
   go_quiet (fail)
   go_wp2
   go_ret
   exact ⟨rfl, by repeat (first | (with_reducible first | exact HI0.out | apply IsS66.drewN | apply IsS66.drew | apply IsS66.set_2 | apply IsS66.set_1) | exact HI0.out),
    by repeat (first | (with_reducible first | exact HB.out | apply pw_below_drewN | apply below_drew1 | refine below_set ?_ H2.out) | exact HB.out),
    by repeat (first | (with_reducible first | exact HK.out | apply KeepBut.set_ | apply keep_drewN | apply keep_drew) | exact HK.out)⟩

 have h1 := H.out
 clear H
 rw [if_pos hlt] at h1
 by_cases hb : 0 ≤ rd s0_0 s0_1 ∧ rd s0_0 s0_1 ≤ 255
 case neg => exact absurd h1 (by rw [if_neg hb]; simp)
 rw [if_pos hb] at h1
 simp only [Option.some.injEq, Prod.mk.injEq] at h1
 obtain ⟨rfl, rfl, rfl⟩ := h1
 obtain ⟨hb0, hb1⟩ := hb
 obtain ⟨k, rfl⟩ := Int.eq_ofNat_of_zero_le ha0
 obtain ⟨ad, rfl, hcell⟩ := Kd.at_int (Kd.C_below HC hB) (k : Int) (by omega) hlt
 have hadg : ad.block < w0.heap.size := by
  obtain ⟨ad', e', hc'⟩ := Kd.at_int HC (k : Int) (by omega) hlt
  obtain rfl := Option.some.inj e'
  have := World.block_lt_of_cell? w0 _ hc'
  rw [own_addb] at this; exact this
 have hne : ∀ j, (⟨g, j, none⟩ : Addr) ≠ ad.add k := fun j e => by
  have := congrArg Addr.block e
  rw [own_addb] at this; simp at this; omega
 have hlt' : (k : Int) + 1 ≤ (s0_0.length : Int) := by omega
 generalize rd s0_0 (k : Int) = b at *
 have hcell2 : (w.setCell ⟨g, 1, none⟩ (.int .i64 ((k : Int) + 1))).cell? (ad.add k) = some (.int .u8 b) := by
  rw [own_other (hne 1)]; exact hcell
 have H2 := ak_ (And.intro hadg hg)
 have HN := ak_ hne
 clear hadg hg hne hcell HC hB
 go_enter Try.func73, Try.ntmps73
 go_wp2
 go_quiet (fail)
 go_wp2
 have hd0 : (w.setCell ⟨g, 1, none⟩ (.int .i64 ((k : Int) + 1))).cell? ⟨g, 0, none⟩ = some (.slice (some ad) s0_0.length c0) := by rw [own_other (by simp)]; exact hcz4_0
 have hd1 : (w.setCell ⟨g, 1, none⟩ (.int .i64 ((k : Int) + 1))).cell? ⟨g, 1, none⟩ = some (.int .i64 ((k : Int) + 1)) := own_same hcz4_1
 have hd2 : (w.setCell ⟨g, 1, none⟩ (.int .i64 ((k : Int) + 1))).cell? ⟨g, 2, none⟩ = some (.int .i64 s0_2) := by rw [own_other (by simp)]; exact hcz4_2
 have hdf : (w.setCell ⟨g, 1, none⟩ (.int .i64 ((k : Int) + 1))).frozen? ⟨g, 2, none⟩ = false := by simp [hfz4_2]
 have HI1 := ak_ (HI0.out.set_1 ((k : Int) + 1))
 have HB1 := ak_ (below_set (g := g) (j := 1) (v := .int .i64 ((k : Int) + 1)) HB.out H2.out.2)
 have HK1 := ak_ (HK.out.set_ 1 (.int .i64 ((k : Int) + 1)))
 clear hcz4_0 hcz4_1 hcz4_2 hfz4_1 hfz4_2
 generalize (w.setCell ⟨g, 1, none⟩ (.int .i64 ((k : Int) + 1))) = W at *
 go_region
 go_wp2
 have hx0 : ((W.drewN (nq + 1)).setCell ⟨g, 2, none⟩ (.int .i64 ((s0_2 * 31 + b + 7) % 2147483648))).cell? ⟨g, 0, none⟩ = some (.slice (some ad) s0_0.length c0) := by rw [own_other (by simp)]; exact hd0
 have hx1 : ((W.drewN (nq + 1)).setCell ⟨g, 2, none⟩ (.int .i64 ((s0_2 * 31 + b + 7) % 2147483648))).cell? ⟨g, 1, none⟩ = some (.int .i64 ((k : Int) + 1)) := by rw [own_other (by simp)]; exact hd1
 have hx2 : ((W.drewN (nq + 1)).setCell ⟨g, 2, none⟩ (.int .i64 ((s0_2 * 31 + b + 7) % 2147483648))).cell? (ad.add k) = some (.int .u8 b) := by rw [own_other (HN.out 2)]; exact hcell2
 go_region
 go_wp2
 go_ret
 exact ⟨rfl, by repeat (first | (with_reducible first | exact HI1.out | apply IsS66.drewN | apply IsS66.drew | apply IsS66.set_2) | exact HI1.out),
  by repeat (first | (with_reducible first | exact HB1.out | apply pw_below_drewN | apply below_drew1 | refine below_set ?_ H2.out.2) | exact HB1.out),
  by repeat (first | (with_reducible first | exact HK1.out | apply KeepBut.set_ | apply keep_drewN | apply keep_drew) | exact HK1.out)⟩
end

section
/-! ### spec_l00Src_next: function 53 -/
def spec_l00Src_next.f (s0_0 : List Int) (s0_1 : Int) (s0_2 : Int) (a1 : Int) : Option (Int × Int × Int) := if a1 ≤ 1 then (some (0, s0_1, s0_2)) else (if a1 ≤ 256 then ((spec_l00Src_byte.f s0_0 s0_1 s0_2).bind fun bt101 => (if a1 = 0 then (none) else (some (Int.tmod bt101.1 a1, bt101.2.1, bt101.2.2)))) else ((spec_l00Src_byte.f s0_0 s0_1 s0_2).bind fun bt104 => ((spec_l00Src_byte.f s0_0 bt104.2.1 bt104.2.2).bind fun bt107 => ((spec_l00Src_byte.f s0_0 bt107.2.1 bt107.2.2).bind fun bt110 => (if a1 = 0 then (none) else (some (Int.tmod (wrap64 ((wrap64 ((wrap64 (bt104.1 * 65536)) + (wrap64 (bt107.1 * 256)))) + bt110.1)) a1, bt110.2.1, bt110.2.2)))))))
theorem spec_l00Src_next.calls (g : Nat) (s0_0 : List Int) (s0_1 : Int) (s0_2 : Int) (a1 : Int) (r1 : Int) (r2 : Int) (r3 : Int) (w0 w : World) (hI : IsS66 w0 w g s0_0 s0_1 s0_2) (hB : Below w0.heap.size w0 w) (h : spec_l00Src_next.f s0_0 s0_1 s0_2 a1 = some (r1, r2, r3)) :
  Calls Try.prog 53 #[.pointer (some ⟨g, 0, none⟩), .int .i64 a1] w fun e w' => e = .returned (.int .i64 r1) ∧ IsS66 w0 w' g s0_0 r2 r3 ∧ Below w0.heap.size w0 w' ∧ KeepBut w w' g none := by
 have HI0 := ak_ hI
 have HK := ak_ (KeepBut.refl w g none)
 have HL := ak_ hB.size
 clear hI
 have HW0 := ak_ hB.size
 have HB := ak_ hB
 clear hB
 have H := h
 unfold spec_l00Src_next.f at H
 clear h
 by_cases c3 : a1 ≤ 1
 ·rw [if_pos c3] at H
  have c3b0 := decide_eq_true c3
  clear c3
  simp only [Option.some.injEq, Prod.mk.injEq] at H
  obtain ⟨rfl, rfl, rfl⟩ := H
  go_enter Try.func53, Try.ntmps53
  go_wp2
  go_ret
  exact ⟨z10_, z16_, z15_, z8_⟩
 rw [if_neg c3] at H
 have c3b0 := decide_eq_false c3
 clear c3
 by_cases c4 : a1 ≤ 256
 ·rw [if_pos c4] at H
  have c4b0 := decide_eq_true c4
  clear c4
  replace H := Option.bind_eq_some_iff.mp H
  obtain ⟨⟨t101, t102, t103⟩, A50, H⟩ := H
  replace H : (if a1 = 0 then (none) else (some (Int.tmod t101 a1, t102, t103))) = some (r1, r2, r3) := H
  have A5 := ak_ A50
  clear A50
  by_cases c6 : a1 = 0
  ·rw [if_pos c6] at H
   exact absurd H (by simp)
  ·rw [if_neg c6] at H
   have c6b0 : (a1 == 0) = false := beq_eq_false_iff_ne.mpr c6
   have c6b1 : (a1 != 0) = true := bne_iff_ne.mpr c6
   simp only [Option.some.injEq, Prod.mk.injEq] at H
   obtain ⟨rfl, rfl, rfl⟩ := H
   go_enter Try.func53, Try.ntmps53
   go_wp2_with (first | ((with_reducible refine gate_callee (f := 73) rfl ?_); refine goesL_ (some 13) rfl rfl Try.func73 (by kernel_rfl) rfl #[.pointer (some ⟨g, 0, none⟩)] rfl z3_ ?_; (with_reducible refine (spec_l00Src_byte.calls g s0_0 s0_1 s0_2 t101 t102 t103 w0 _ ?side1 ?side2 A5.out).mono ?_); (case side1 => repeat (first | (with_reducible first | exact HI0.out | apply IsS66.alloc | apply IsS66.drewN | apply IsS66.drew | apply IsS66.set_1 | apply IsS66.set_2) | exact HI0.out)); (case side2 => repeat (first | (with_reducible first | exact HB.out | apply below_alloc | apply pw_below_drewN | apply below_drew1 | refine below_set ?_ (IsS66.ge HI0.out)) | exact HB.out)); rintro e w7 ⟨rfl, hi, hb, hk⟩; refine ⟨_, rfl, ?_⟩; have n_ := a3_ (KeepBut.trans z8_ hk (.inl rfl)) (hb) (hi); clear HK HB HI0; obtain ⟨HK, HB, HI0⟩ := n_; (try clear hb); (try clear hb2); (try clear hk); (try clear hi)))
   go_ret
   exact ⟨z10_, z16_, z15_, z8_⟩
 rw [if_neg c4] at H
 have c4b0 := decide_eq_false c4
 clear c4
 replace H := Option.bind_eq_some_iff.mp H
 obtain ⟨⟨t104, t105, t106⟩, A80, H⟩ := H
 replace H : ((spec_l00Src_byte.f s0_0 t105 t106).bind fun bt107 => ((spec_l00Src_byte.f s0_0 bt107.2.1 bt107.2.2).bind fun bt110 => (if a1 = 0 then (none) else (some (Int.tmod (wrap64 ((wrap64 ((wrap64 (t104 * 65536)) + (wrap64 (bt107.1 * 256)))) + bt110.1)) a1, bt110.2.1, bt110.2.2))))) = some (r1, r2, r3) := H
 have A8 := ak_ A80
 clear A80
 replace H := Option.bind_eq_some_iff.mp H
 obtain ⟨⟨t107, t108, t109⟩, A90, H⟩ := H
 replace H : ((spec_l00Src_byte.f s0_0 t108 t109).bind fun bt110 => (if a1 = 0 then (none) else (some (Int.tmod (wrap64 ((wrap64 ((wrap64 (t104 * 65536)) + (wrap64 (t107 * 256)))) + bt110.1)) a1, bt110.2.1, bt110.2.2)))) = some (r1, r2, r3) := H
 have A9 := ak_ A90
 clear A90
 replace H := Option.bind_eq_some_iff.mp H
 obtain ⟨⟨t110, t111, t112⟩, A100, H⟩ := H
 replace H : (if a1 = 0 then (none) else (some (Int.tmod (wrap64 ((wrap64 ((wrap64 (t104 * 65536)) + (wrap64 (t107 * 256)))) + t110)) a1, t111, t112))) = some (r1, r2, r3) := H
 have A10 := ak_ A100
 clear A100
 by_cases c11 : a1 = 0
 ·rw [if_pos c11] at H
  exact absurd H (by simp)
 rw [if_neg c11] at H
 have c11b0 : (a1 == 0) = false := beq_eq_false_iff_ne.mpr c11
 have c11b1 : (a1 != 0) = true := bne_iff_ne.mpr c11
 simp only [Option.some.injEq, Prod.mk.injEq] at H
 obtain ⟨rfl, rfl, rfl⟩ := H
 go_enter Try.func53, Try.ntmps53
 go_wp2_with (first | ((with_reducible refine gate_callee (f := 73) rfl ?_); refine goesL_ (some 17) rfl rfl Try.func73 (by kernel_rfl) rfl #[.pointer (some ⟨g, 0, none⟩)] rfl z3_ ?_; (with_reducible refine (spec_l00Src_byte.calls g s0_0 s0_1 s0_2 t104 t105 t106 w0 _ ?side1 ?side2 A8.out).mono ?_); (case side1 => repeat (first | (with_reducible first | exact HI0.out | apply IsS66.alloc | apply IsS66.drewN | apply IsS66.drew | apply IsS66.set_1 | apply IsS66.set_2) | exact HI0.out)); (case side2 => repeat (first | (with_reducible first | exact HB.out | apply below_alloc | apply pw_below_drewN | apply below_drew1 | refine below_set ?_ (IsS66.ge HI0.out)) | exact HB.out)); rintro e w12 ⟨rfl, hi, hb, hk⟩; refine ⟨_, rfl, ?_⟩; have n_ := a3_ (KeepBut.trans z8_ hk (.inl rfl)) (hb) (hi); clear HK HB HI0; obtain ⟨HK, HB, HI0⟩ := n_; (try clear hb); (try clear hb2); (try clear hk); (try clear hi)) | ((with_reducible refine gate_callee (f := 73) rfl ?_); refine goesL_ (some 19) rfl rfl Try.func73 (by kernel_rfl) rfl #[.pointer (some ⟨g, 0, none⟩)] rfl z3_ ?_; (with_reducible refine (spec_l00Src_byte.calls g s0_0 t105 t106 t107 t108 t109 w0 _ ?side1 ?side2 A9.out).mono ?_); (case side1 => repeat (first | (with_reducible first | exact HI0.out | apply IsS66.alloc | apply IsS66.drewN | apply IsS66.drew | apply IsS66.set_1 | apply IsS66.set_2) | exact HI0.out)); (case side2 => repeat (first | (with_reducible first | exact HB.out | apply below_alloc | apply pw_below_drewN | apply below_drew1 | refine below_set ?_ (IsS66.ge HI0.out)) | exact HB.out)); rintro e w13 ⟨rfl, hi, hb, hk⟩; refine ⟨_, rfl, ?_⟩; have n_ := a3_ (KeepBut.trans z8_ hk (.inl rfl)) (hb) (hi); clear HK HB HI0; obtain ⟨HK, HB, HI0⟩ := n_; (try clear hb); (try clear hb2); (try clear hk); (try clear hi)) | ((with_reducible refine gate_callee (f := 73) rfl ?_); refine goesL_ (some 21) rfl rfl Try.func73 (by kernel_rfl) rfl #[.pointer (some ⟨g, 0, none⟩)] rfl z3_ ?_; (with_reducible refine (spec_l00Src_byte.calls g s0_0 t108 t109 t110 t111 t112 w0 _ ?side1 ?side2 A10.out).mono ?_); (case side1 => repeat (first | (with_reducible first | exact HI0.out | apply IsS66.alloc | apply IsS66.drewN | apply IsS66.drew | apply IsS66.set_1 | apply IsS66.set_2) | exact HI0.out)); (case side2 => repeat (first | (with_reducible first | exact HB.out | apply below_alloc | apply pw_below_drewN | apply below_drew1 | refine below_set ?_ (IsS66.ge HI0.out)) | exact HB.out)); rintro e w14 ⟨rfl, hi, hb, hk⟩; refine ⟨_, rfl, ?_⟩; have n_ := a3_ (KeepBut.trans z8_ hk (.inl rfl)) (hb) (hi); clear HK HB HI0; obtain ⟨HK, HB, HI0⟩ := n_; (try clear hb); (try clear hb2); (try clear hk); (try clear hi)))
 go_ret
 exact ⟨z10_, z16_, z15_, z8_⟩
end

section
/-! ### spec_l00Src_odd: function 54 -/
def spec_l00Src_odd.f (s0_0 : List Int) (s0_1 : Int) (s0_2 : Int) : Option (Int × Int × Int) := (some (([0, (-1), 1, 2, 63, 64, 65, 4096, 4097, 9223372036854775807, (-9223372036854775808), 30] : List Int) : List Int)).bind fun y101 => ((spec_l00Src_next.f s0_0 s0_1 s0_2 12).bind fun bt104 => (if 0 ≤ bt104.1 then (if bt104.1 < (y101.length : Int) then (some (rd y101 bt104.1, bt104.2.1, bt104.2.2)) else (none)) else (none)))
theorem spec_l00Src_odd.calls (g : Nat) (s0_0 : List Int) (s0_1 : Int) (s0_2 : Int) (r1 : Int) (r2 : Int) (r3 : Int) (w0 w : World) (hI : IsS66 w0 w g s0_0 s0_1 s0_2) (hB : Below w0.heap.size w0 w) (h : spec_l00Src_odd.f s0_0 s0_1 s0_2 = some (r1, r2, r3)) :
  Calls Try.prog 54 #[.pointer (some ⟨g, 0, none⟩)] w fun e w' => e = .returned (.int .i64 r1) ∧ IsS66 w0 w' g s0_0 r2 r3 ∧ Below w0.heap.size w0 w' ∧ KeepBut w w' g none := by
 have HI0 := ak_ hI
 have HK := ak_ (KeepBut.refl w g none)
 have HL := ak_ hB.size
 clear hI
 have HW0 := ak_ hB.size
 have HB := ak_ hB
 clear hB
 have H := h
 unfold spec_l00Src_odd.f at H
 clear h
 obtain ⟨y101, hy101⟩ : ∃ y_ : List Int, y_ = (([0, (-1), 1, 2, 63, 64, 65, 4096, 4097, 9223372036854775807, (-9223372036854775808), 30] : List Int)) := ⟨_, rfl⟩
 replace H : ((spec_l00Src_next.f s0_0 s0_1 s0_2 12).bind fun bt104 => (if 0 ≤ bt104.1 then (if bt104.1 < (y101.length : Int) then (some (rd y101 bt104.1, bt104.2.1, bt104.2.2)) else (none)) else (none))) = some (r1, r2, r3) := by first | (rw [hy101]; with_reducible exact H) | (have H2_ := (Option.bind_some _ _).symm.trans H; rw [hy101]; with_reducible exact H2_) | (have H2_ := (Option.bind_some _ _).symm.trans H; with_reducible exact H2_) | with_reducible exact H | (rw [hy101]; exact H) | exact H
 have Ny101 := ak_ hy101
 clear hy101
 replace H := Option.bind_eq_some_iff.mp H
 obtain ⟨⟨t104, t105, t106⟩, A20, H⟩ := H
 replace H : (if 0 ≤ t104 then (if t104 < (y101.length : Int) then (some (rd y101 t104, t105, t106)) else (none)) else (none)) = some (r1, r2, r3) := H
 have A2 := ak_ A20
 clear A20
 by_cases c3 : 0 ≤ t104
 rotate_left
 ·rw [if_neg c3] at H
  exact absurd H (by simp)

 rw [if_pos c3] at H
 have c3b0 := decide_eq_true c3
 clear c3
 by_cases c4 : t104 < (y101.length : Int)
 rotate_left
 ·rw [if_neg c4] at H
  exact absurd H (by simp)
 rw [if_pos c4] at H
 have c4b0 := decide_eq_true c4
 clear c4
 simp only [Option.some.injEq, Prod.mk.injEq] at H
 obtain ⟨rfl, rfl, rfl⟩ := H
 go_enter Try.func54, Try.ntmps54
 go_wp2_with (first | ((with_reducible refine gate_dst (N := 3) rfl ?_); refine Kd.R_lit (Kd.int .i64) _ 3 ?hg (N := 3) ?hd (xs := ([0, (-1), 1, 2, 63, 64, 65, 4096, 4097, 9223372036854775807, (-9223372036854775808), 30] : List Int)) (inner := [.int .i64 0, .int .i64 (-1), .int .i64 1, .int .i64 2, .int .i64 63, .int .i64 64, .int .i64 65, .int .i64 4096, .int .i64 4097, .int .i64 9223372036854775807, .int .i64 (-9223372036854775808), .int .i64 30]) (ok := fun _ => True) (okp := fun _ => True) ?hr ?hp (fun _ hk => hk) trivial (Below.refl _ _) (Nat.le_refl _) (by simp) ?_; (case hd => rfl); (case hg => rfl); (case hr => first | (go_simp; done) | (go_simp; rfl)); (case hp => exact (Reps.one (show Kd.M (Kd.int .i64) _ _ _ 0 [.int .i64 0] from rfl) (Reps.one (show Kd.M (Kd.int .i64) _ _ _ (-1) [.int .i64 (-1)] from rfl) (Reps.one (show Kd.M (Kd.int .i64) _ _ _ 1 [.int .i64 1] from rfl) (Reps.one (show Kd.M (Kd.int .i64) _ _ _ 2 [.int .i64 2] from rfl) (Reps.one (show Kd.M (Kd.int .i64) _ _ _ 63 [.int .i64 63] from rfl) (Reps.one (show Kd.M (Kd.int .i64) _ _ _ 64 [.int .i64 64] from rfl) (Reps.one (show Kd.M (Kd.int .i64) _ _ _ 65 [.int .i64 65] from rfl) (Reps.one (show Kd.M (Kd.int .i64) _ _ _ 4096 [.int .i64 4096] from rfl) (Reps.one (show Kd.M (Kd.int .i64) _ _ _ 4097 [.int .i64 4097] from rfl) (Reps.one (show Kd.M (Kd.int .i64) _ _ _ 9223372036854775807 [.int .i64 9223372036854775807] from rfl) (Reps.one (show Kd.M (Kd.int .i64) _ _ _ (-9223372036854775808) [.int .i64 (-9223372036854775808)] from rfl) (Reps.one (show Kd.M (Kd.int .i64) _ _ _ 30 [.int .i64 30] from rfl) (Reps.none _ _)))))))))))))); intro v102 w5 ho6 hb hg_ hnew_; clear hg_ hnew_; (first | rw [← Ny101.out] at ho6 | (simp only [Int.reduceToNat] at ho6; rw [← Ny101.out] at ho6)); have n_ := a4_ (Kd.R_lower ho6 (keep_size (w := w) (g := g) (row := none) z8_)) (IsS66.below z16_ hb) (KeepBut.trans z8_ (KeepBut.of_below hb g none) (.inl rfl)) (below_step z15_ hb); clear HI0 HK HB; obtain ⟨HO103, HI0, HK, HB⟩ := n_; clear hb ho6) | ((with_reducible refine gate_callee (f := 53) rfl ?_); refine goesL_ (some 5) rfl rfl Try.func53 (by kernel_rfl) rfl #[.pointer (some ⟨g, 0, none⟩), .int .i64 12] rfl z3_ ?_; (with_reducible refine (spec_l00Src_next.calls g s0_0 s0_1 s0_2 12 t104 t105 t106 w0 _ ?side1 ?side2 A2.out).mono ?_); (case side1 => repeat (first | (with_reducible first | exact HI0.out | apply IsS66.alloc | apply IsS66.drewN | apply IsS66.drew | apply IsS66.set_1 | apply IsS66.set_2) | exact HI0.out)); (case side2 => repeat (first | (with_reducible first | exact HB.out | apply below_alloc | apply pw_below_drewN | apply below_drew1 | refine below_set ?_ (IsS66.ge HI0.out)) | exact HB.out)); rintro e w7 ⟨rfl, hi, hb, hk⟩; refine ⟨_, rfl, ?_⟩; have n_ := a4_ (Kd.R_mono (Kd.R_keep (IsS66.apart (show IsS66 w0 _ g s0_0 s0_1 s0_2 from by repeat (first | (with_reducible first | exact HI0.out | apply IsS66.alloc | apply IsS66.drewN | apply IsS66.drew | apply IsS66.set_1 | apply IsS66.set_2) | exact HI0.out)) z89_ (by decide)) hk (fun _ h => h.2)) (fun _ h => h.1)) (KeepBut.trans z8_ hk (.inl rfl)) (hb) (hi); clear HO103 HK HB HI0; obtain ⟨HO103, HK, HB, HI0⟩ := n_; (try clear hb); (try clear hb2); (try clear hk); (try clear hi); obtain ⟨Ao8, co8, eo8⟩ := Kd.R_slice HO103.out; subst eo8; have p107 : 0 ≤ (t104 : Int) := of_decide_eq_true z11_; have q107 : t104 < (y101.length : Int) := of_decide_eq_true z11_; obtain ⟨ad107, e107, hx107_0⟩ := Kd.at_int (Kd.R_reads' HO103.out).2.2 t104 p107 q107; cases e107; replace p107 := eq_true p107; replace q107 := eq_true q107))
 go_ret
 exact ⟨z10_, z16_, z15_, z8_⟩
end

section
/-! ### spec_l00Src_pick: function 74 -/
def spec_l00Src_pick.f (s0_0 : List Int) (s0_1 : Int) (s0_2 : Int) (l1 : List ByteArray) : Option (ByteArray × Int × Int) := if (l1.length : Int) = 0 then (some ((⟨#[]⟩ : ByteArray), s0_1, s0_2)) else ((spec_l00Src_next.f s0_0 s0_1 s0_2 (l1.length : Int)).bind fun bt101 => (if 0 ≤ bt101.1 then (if bt101.1 < (l1.length : Int) then (some (rdOf ByteArray.empty l1 bt101.1, bt101.2.1, bt101.2.2)) else (none)) else (none)))
theorem spec_l00Src_pick.calls (g : Nat) (s0_0 : List Int) (s0_1 : Int) (s0_2 : Int) (A1 : Option Addr) (c1 : Nat) (l1 : List ByteArray) (r1 : ByteArray) (r2 : Int) (r3 : Int) (w0 w : World) (hI : IsS66 w0 w g s0_0 s0_1 s0_2) (hB : Below w0.heap.size w0 w) (hr1 : Kd.C Kd.string w A1 l1.length l1) (hc1 : l1.length ≤ c1) (hf1 : ∀ ad, A1 = some ad → 0 < l1.length → ad.block ≠ g) (h : spec_l00Src_pick.f s0_0 s0_1 s0_2 l1 = some (r1, r2, r3)) :
  Calls Try.prog 74 #[.pointer (some ⟨g, 0, none⟩), .slice A1 l1.length c1] w fun e w' => e = .returned (.string r1) ∧ IsS66 w0 w' g s0_0 r2 r3 ∧ Below w0.heap.size w0 w' ∧ KeepBut w w' g none := by
 have HR1 := ak_ hr1
 have HC1 := ak_ hc1
 clear hr1 hc1
 have HI0 := ak_ hI
 have HK := ak_ (KeepBut.refl w g none)
 have HL := ak_ hB.size
 clear hI
 have HW0 := ak_ hB.size
 have HB := ak_ hB
 clear hB
 have H := h
 unfold spec_l00Src_pick.f at H
 clear h
 by_cases c3 : (l1.length : Int) = 0
 ·rw [if_pos c3] at H
  have c3b0 : ((l1.length : Int) == 0) = true := beq_iff_eq.mpr c3
  have c3b1 : ((l1.length : Int) != 0) = false := bne_eq_false_iff_eq.mpr c3
  clear c3
  simp only [Option.some.injEq, Prod.mk.injEq] at H
  obtain ⟨rfl, rfl, rfl⟩ := H
  go_enter Try.func74, Try.ntmps74
  go_wp2
  go_ret
  exact ⟨z10_, z16_, z15_, z8_⟩
 rw [if_neg c3] at H
 have c3b0 : ((l1.length : Int) == 0) = false := beq_eq_false_iff_ne.mpr c3
 have c3b1 : ((l1.length : Int) != 0) = true := bne_iff_ne.mpr c3
 have c3b2 : ¬ (l1 = []) := fun h_ => c3 (by rw [h_]; rfl)
 replace H := Option.bind_eq_some_iff.mp H
 obtain ⟨⟨t101, t102, t103⟩, A40, H⟩ := H
 replace H : (if 0 ≤ t101 then (if t101 < (l1.length : Int) then (some (rdOf ByteArray.empty l1 t101, t102, t103)) else (none)) else (none)) = some (r1, r2, r3) := H
 have A4 := ak_ A40
 clear A40
 by_cases c5 : 0 ≤ t101
 rotate_left
 ·rw [if_neg c5] at H
  exact absurd H (by simp)

 rw [if_pos c5] at H
 have c5b0 := decide_eq_true c5
 clear c5
 by_cases c6 : t101 < (l1.length : Int)
 rotate_left
 ·rw [if_neg c6] at H
  exact absurd H (by simp)
 rw [if_pos c6] at H
 have c6b0 := decide_eq_true c6
 clear c6
 simp only [Option.some.injEq, Prod.mk.injEq] at H
 obtain ⟨rfl, rfl, rfl⟩ := H
 go_enter Try.func74, Try.ntmps74
 go_wp2_with (first | ((with_reducible refine gate_callee (f := 53) rfl ?_); refine goesL_ (some 12) rfl rfl Try.func53 (by kernel_rfl) rfl #[.pointer (some ⟨g, 0, none⟩), .int .i64 (l1.length : Int)] rfl z3_ ?_; (with_reducible refine (spec_l00Src_next.calls g s0_0 s0_1 s0_2 (l1.length : Int) t101 t102 t103 w0 _ ?side1 ?side2 A4.out).mono ?_); (case side1 => repeat (first | (with_reducible first | exact HI0.out | apply IsS66.alloc | apply IsS66.drewN | apply IsS66.drew | apply IsS66.set_1 | apply IsS66.set_2) | exact HI0.out)); (case side2 => repeat (first | (with_reducible first | exact HB.out | apply below_alloc | apply pw_below_drewN | apply below_drew1 | refine below_set ?_ (IsS66.ge HI0.out)) | exact HB.out)); rintro e w7 ⟨rfl, hi, hb, hk⟩; refine ⟨_, rfl, ?_⟩; have n_ := a3_ (KeepBut.trans z8_ hk (.inl rfl)) (hb) (hi); clear HK HB HI0; obtain ⟨HK, HB, HI0⟩ := n_; (try clear hb); (try clear hb2); (try clear hk); (try clear hi); have p104 : 0 ≤ (t101 : Int) := of_decide_eq_true z11_; have q104 : t101 < (l1.length : Int) := of_decide_eq_true z11_; obtain ⟨ad104, e104, hx104_0⟩ := Kd.at_string HR1.out t101 p104 q104; cases e104; replace hx104_0 := keep_cell HK.out hx104_0 (by first | (rw [add_block]; exact hf1 _ rfl (by omega)) | exact hf1 _ rfl (by omega) | exact hf1 ad104 rfl (by omega)); replace p104 := eq_true p104; replace q104 := eq_true q104))
 go_ret
 exact ⟨z10_, z16_, z15_, z8_⟩
end

end Go.Proofs.Ytfbclbbhomhfaaa.X
end
