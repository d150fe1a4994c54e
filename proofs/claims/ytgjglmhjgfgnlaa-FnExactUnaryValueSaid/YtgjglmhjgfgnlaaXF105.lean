-- WRITTEN BY xprint.py, a program of this session, over the translation of the seat. Lean checks it.
import Derived.Test.YtgjglmhjgfgnlaaX0
namespace Go.Proofs.Ytgjglmhjgfgnlaa.X
open Go.RowKit Go.Proofs.YtgjglmhjgfgnlaaW.PrintWords Go.Proofs.YtgjglmhjgfgnlaaW.PrintLast Go.Proofs.YtgjglmhjgfgnlaaW.PrintMore
attribute [local go_sem] max2_int min2_int max_two min_two max_three min_three max_four min_four   -- for this text's walks alone
set_option linter.unusedVariables false
set_option linter.unusedSimpArgs false

/-! ### slices_IndexFunc_string_string: function 105 -/
set_option maxHeartbeats 4000000 in
set_option maxRecDepth 100000 in
theorem slices_IndexFunc_string_string.any (gf : Nat) (lb : Array Value) (p : ByteArray → Bool) (A0 : Option Addr) (c0 : Nat) (l0 : List (ByteArray)) (w : World) (hr0 : Kd.C Kd.string w A0 l0.length l0)
    (eg : ∀ args w, (callFunc gf args).run Try.prog w = .ok (.enter gf args) w)
    (hp : ∀ (W : World) (x : ByteArray), x ∈ l0 → Below w.heap.size w W → Calls Try.prog gf (#[.string x] ++ lb) W fun e w' => e = .returned (.bool (p x)) ∧ Below w.heap.size w w') :
    Calls Try.prog 105 #[.slice A0 l0.length c0, .func (.func gf) #[] lb] w fun e w' => e = .returned (.int .i64 (fIdx p l0)) ∧ Below w.heap.size w w' := by
  have hbig := C_len hr0
  go_enter Try.func105, Try.ntmps105
  go_wp2
  go_loopg [5, 8] l0.length (fun gg _ s8 wr => ∃ kk : Nat, kk ≤ l0.length ∧ l0.length - kk ≤ gg ∧ s8 = .int .i64 kk ∧ Aside0 (Below w.heap.size w wr) ∧ Aside0 (∀ j, (hj : j < kk) → (hj2 : j < l0.length) → p l0[j] = false))
  case atStart => exact ⟨0, Nat.zero_le _, by omega, rfl, ⟨Below.refl _ w⟩, ⟨fun j hj => absurd hj (Nat.not_lt_zero _)⟩⟩
  case round =>
    obtain ⟨kk, hkk, hg, rfl, BW, A⟩ := hrel
    by_cases hlt : kk < l0.length
    · have hltz : (kk : Int) < (l0.length : Int) := by omega
      obtain ⟨ad, rfl, hc0⟩ := Kd.at_string hr0 (kk : Int) (by omega) hltz
      replace hc0 := (BW.out.cell (World.block_lt_of_cell? w _ hc0)).trans hc0
      have hy : rdOf ByteArray.empty l0 (kk : Int) = l0[kk] := by simp [rdOf, hlt]
      simp only [hy, Int.toNat_natCast] at hc0
      have hcall := hp wr l0[kk] (List.getElem_mem hlt) BW.out
      clear hp hy hr0
      generalize hyy : l0[kk] = y at hc0 hcall
      have Y := Aside0.mk hyy
      clear hyy
      generalize hq : p y = q at hcall
      have Q := Aside0.mk hq
      clear hq
      cases q with
      | true =>
        go_wp2_with (go_at_fn gf; refine hcall.mono ?_; rintro e w' ⟨rfl, hb'⟩)
        go_ret
        exact ⟨by rw [fIdx_hit p l0 kk hlt (by rw [Y.out]; exact Q.out) (fun j hj => A.out j hj (by omega))] <;> rfl, hb'⟩
      | false =>
        go_wp2_with (go_at_fn gf; refine hcall.mono ?_; rintro e w' ⟨rfl, hb'⟩)
        go_roundg (l0.length - (kk + 1))
        case measure => omega
        case rel =>
          refine ⟨kk + 1, by omega, by omega, by go_num, ⟨hb'⟩, ⟨fun j hj hj2 => ?_⟩⟩
          by_cases e : j = kk
          · subst e
            rw [Y.out]; exact Q.out
          · exact A.out j (by omega) hj2
    · have hltz : ¬ (kk : Int) < (l0.length : Int) := by omega
      have A2 := Aside0.mk (fIdx_miss p l0 (fun j hj => A.out j (by omega) hj))
      clear hp hr0 A hlt
      go_wp2
      go_ret
      exact ⟨by rw [A2.out] <;> rfl, BW.out⟩

end Go.Proofs.Ytgjglmhjgfgnlaa.X
