/- Contracts of functions, and what is told of them. -/
import Derived.Test.YtjknmljdnolilaaDoorYFnExactCatalogOK3
import Derived.Test.YtjknmljdnolilaaDoorYFnExactCatalogOK9
import Derived.Test.YtjknmljdnolilaaDoorYFnExactCatalogOK11
import Derived.Shelf.Abstract
-- WRITTEN BY xprint.py, a program of this session, over the translation of the seat. Lean checks it.
namespace Go.Proofs.YtjknmljdnolilaaDoor.X
open Go.RowKit Go.Proofs.YtjknmljdnolilaaDoorW.PrintWords Go.Proofs.YtjknmljdnolilaaDoorW.PrintLast Go.Proofs.YtjknmljdnolilaaDoorW.PrintMore
attribute [local go_sem] max2_int min2_int max_two min_two max_three min_three max_four min_four   -- for this text's walks alone
set_option linter.unusedVariables false
set_option linter.unusedSimpArgs false

/-! ### impl_Table_index: function 49 -/
-- XIMP Derived.Shelf.Abstract
theorem impl_Table_index.clo (x : S75) (A : Option Addr) (c : Nat) (t : ByteArray) (ad : Addr) (W : World) (hc : W.cell? ad = some (.string t)) :
    Calls Tryd.prog 79 (#[.agg #[.string x.f0, .slice A x.f1.length c]] ++ #[.pointer (some ad)]) W fun e w' => e = .returned (.bool (x.f0.toList == t.toList)) ∧ Below W.heap.size W w' := by
  have hu := Tryd.underlying75
  have hca := fun o => ((below_alloc (Below.refl _ W) o).cell (World.block_lt_of_cell? W _ hc)).trans hc
  go_enter Tryd.func79, Tryd.ntmps79
  go_wp2
  go_ret
  exact ⟨rfl, (Below.refl _ W).alloc (Nat.le_refl _) _⟩
def impl_Table_index.f (a0_0 : ByteArray) (l0_1 : List (S70)) (a0_2 : Int) (l0_3 : List (S75)) (a1 : ByteArray) : Option Int := some (fIdx (fun x => x.f0.toList == a1.toList) l0_3)
set_option maxHeartbeats 4000000 in
set_option maxRecDepth 100000 in
theorem impl_Table_index.calls (a0_0 : ByteArray) (A0_1 : Option Addr) (c0_1 : Nat) (l0_1 : List (S70)) (a0_2 : Int) (A0_3 : Option Addr) (c0_3 : Nat) (l0_3 : List (S75)) (a1 : ByteArray) (r : Int) (w : World) (hr0_1 : Kd.C k70 w A0_1 l0_1.length l0_1) (hc0_1 : l0_1.length ≤ c0_1) (hr0_3 : Kd.C k75 w A0_3 l0_3.length l0_3) (hc0_3 : l0_3.length ≤ c0_3) (h : impl_Table_index.f a0_0 l0_1 a0_2 l0_3 a1 = some r) :
    Calls Tryd.prog 49 #[.agg #[.string a0_0, .slice A0_1 l0_1.length c0_1, .int .i64 a0_2, .slice A0_3 l0_3.length c0_3], .string a1] w fun e w' => e = .returned (.int .i64 r) ∧ Below w.heap.size w w' := by
  obtain rfl := Option.some.inj h
  have hu := Tryd.underlying39
  have hb0 : Below w.heap.size w ((w.alloc (.cells #[.string a0_0, .slice A0_1 l0_1.length c0_1, .int .i64 a0_2, .slice A0_3 l0_3.length c0_3] 39)).alloc (.cells #[.string a1] 9)) := ((Below.refl _ _).alloc (Nat.le_refl _) _).alloc (by simp) _
  have hm : ((w.alloc (.cells #[.string a0_0, .slice A0_1 l0_1.length c0_1, .int .i64 a0_2, .slice A0_3 l0_3.length c0_3] 39)).alloc (.cells #[.string a1] 9)).heap[w.heap.size + 1]? = some (.cells #[.string a1] 9 (0, 0)) := by
    have := heap_alloc_new (w.alloc (.cells #[.string a0_0, .slice A0_1 l0_1.length c0_1, .int .i64 a0_2, .slice A0_3 l0_3.length c0_3] 39)) (.cells #[.string a1] 9)
    simpa using this
  have hcell : ((w.alloc (.cells #[.string a0_0, .slice A0_1 l0_1.length c0_1, .int .i64 a0_2, .slice A0_3 l0_3.length c0_3] 39)).alloc (.cells #[.string a1] 9)).cell? ⟨w.heap.size + 1, 0, none⟩ = some (.string a1) := blk_cell hm 0
  have hcall := impl_Index.any 79 #[.pointer (some ⟨w.heap.size + 1, 0, none⟩)] (fun x => x.f0.toList == a1.toList) A0_3 c0_3 l0_3 _ (Kd.C_below hr0_3 hb0) (fun _ _ => by kernel_rfl)
    (fun W x A c _ hb _ _ => (impl_Table_index.clo x A c a1 _ W ((hb.cell (World.block_lt_of_cell? _ _ hcell)).trans hcell)).mono fun e w' h_ => ⟨h_.1, below_step hb h_.2⟩)
  have HB := ak_ hb0
  clear hb0 hm hcell hr0_1 hc0_1 hr0_3 hc0_3 h
  go_enter Tryd.func49, Tryd.ntmps49
  go_wp2_with (go_at_call 78; refine hcall.mono ?_; rintro e w' ⟨rfl, hb'⟩)
  go_ret
  exact ⟨rfl, below_step HB.out hb'⟩

end Go.Proofs.YtjknmljdnolilaaDoor.X
