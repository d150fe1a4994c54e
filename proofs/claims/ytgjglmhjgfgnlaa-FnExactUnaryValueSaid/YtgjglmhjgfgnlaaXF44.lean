-- WRITTEN BY xprint.py, a program of this session, over the translation of the seat. Lean checks it.
import Derived.Test.YtgjglmhjgfgnlaaX0
import Derived.Test.YtgjglmhjgfgnlaaXF72
namespace Go.Proofs.Ytgjglmhjgfgnlaa.X
open Go.RowKit Go.Proofs.YtgjglmhjgfgnlaaW.PrintWords Go.Proofs.YtgjglmhjgfgnlaaW.PrintLast Go.Proofs.YtgjglmhjgfgnlaaW.PrintMore
attribute [local go_sem] max2_int min2_int max_two min_two max_three min_three max_four min_four   -- for this text's walks alone
set_option linter.unusedVariables false
set_option linter.unusedSimpArgs false

/-! ### impl_areLong: function 44 -/
theorem impl_areLong.clos (W w : World) (x : ByteArray) (hb : Below w.heap.size w W) : Calls Try.prog 73 (#[.string x] ++ #[]) W fun e w' => e = .returned (.bool (decide (65536 < (x.size : Int)))) ∧ Below w.heap.size w w' := by
  go_enter Try.func73, Try.ntmps73
  go_wp2
  go_ret
  exact ⟨rfl, hb⟩
def impl_areLong.f (l0 : List ByteArray) : Option Bool := some (l0.any fun x => decide (65536 < (x.size : Int)))
theorem impl_areLong.calls (A0 : Option Addr) (c0 : Nat) (l0 : List ByteArray) (r : Bool) (w : World) (hr0 : Kd.C Kd.string w A0 l0.length l0) (hc0 : l0.length ≤ c0) (h : impl_areLong.f l0 = some r) :
    Calls Try.prog 44 #[.slice A0 l0.length c0] w fun e w' => e = .returned (.bool r) ∧ Below w.heap.size w w' := by
  obtain rfl := Option.some.inj h
  clear h
  have hk := fun W hr0 hp => slices_ContainsFunc_string_string.any 73 #[] (fun x => decide (65536 < (x.size : Int))) A0 c0 l0 W hr0 (fun _ _ => by kernel_rfl) hp
  have hq := fun w W x (_ : x ∈ l0) hb => impl_areLong.clos W w x hb
  go_enter Try.func44, Try.ntmps44
  go_wp2_with (go_at_call 72; refine (hk _ hr0 (hq _)).mono ?_; rintro e w' ⟨rfl, hb'⟩)
  go_ret
  exact ⟨rfl, hb'⟩

end Go.Proofs.Ytgjglmhjgfgnlaa.X
