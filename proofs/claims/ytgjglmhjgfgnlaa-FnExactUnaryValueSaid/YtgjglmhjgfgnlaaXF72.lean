-- WRITTEN BY xprint.py, a program of this session, over the translation of the seat. Lean checks it.
import Derived.Test.YtgjglmhjgfgnlaaX0
import Derived.Test.YtgjglmhjgfgnlaaXF105
namespace Go.Proofs.Ytgjglmhjgfgnlaa.X
open Go.RowKit Go.Proofs.YtgjglmhjgfgnlaaW.PrintWords Go.Proofs.YtgjglmhjgfgnlaaW.PrintLast Go.Proofs.YtgjglmhjgfgnlaaW.PrintMore
attribute [local go_sem] max2_int min2_int max_two min_two max_three min_three max_four min_four   -- for this text's walks alone
set_option linter.unusedVariables false
set_option linter.unusedSimpArgs false

/-! ### slices_ContainsFunc_string_string: function 72 -/
set_option maxHeartbeats 2000000 in
theorem slices_ContainsFunc_string_string.any (gf : Nat) (lb : Array Value) (p : ByteArray → Bool) (A0 : Option Addr) (c0 : Nat) (l0 : List (ByteArray)) (w : World) (hr0 : Kd.C Kd.string w A0 l0.length l0)
    (eg : ∀ args w, (callFunc gf args).run Try.prog w = .ok (.enter gf args) w)
    (hp : ∀ (W : World) (x : ByteArray), x ∈ l0 → Below w.heap.size w W → Calls Try.prog gf (#[.string x] ++ lb) W fun e w' => e = .returned (.bool (p x)) ∧ Below w.heap.size w w') :
    Calls Try.prog 72 #[.slice A0 l0.length c0, .func (.func gf) #[] lb] w fun e w' => e = .returned (.bool (l0.any p)) ∧ Below w.heap.size w w' := by
  rw [← fIdx_any]
  have h := fun W hr0 hp => slices_IndexFunc_string_string.any gf lb p A0 c0 l0 W hr0 eg hp
  go_enter Try.func72, Try.ntmps72
  go_wp2_with (go_at_call 105; refine (h _ hr0 hp).mono ?_; rintro e w' ⟨rfl, hb'⟩)
  go_ret
  exact ⟨rfl, hb'⟩

end Go.Proofs.Ytgjglmhjgfgnlaa.X
