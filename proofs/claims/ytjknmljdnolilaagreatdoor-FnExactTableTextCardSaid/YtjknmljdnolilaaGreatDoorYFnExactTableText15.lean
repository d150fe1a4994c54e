/- Contracts of functions, and what is told of them. -/
import Derived.Test.YtjknmljdnolilaaGreatDoorYFnExactTableText3
import Derived.Test.YtjknmljdnolilaaGreatDoorYFnExactTableText12
import Derived.Shelf.Strings.OnBuilder
import Derived.Shelf.Strconv.Itoa3
set_option linter.unusedSimpArgs false
set_option linter.unusedVariables false
section
namespace Go.Proofs.YtjknmljdnolilaaGreatDoor.X
open Go.RowKit Go.Proofs.YtjknmljdnolilaaGreatDoorW.PrintWords Go.Proofs.YtjknmljdnolilaaGreatDoorW.PrintLast Go.Proofs.YtjknmljdnolilaaGreatDoorW.PrintMore
attribute [local go_sem] max2_int min2_int max_two min_two max_three min_three max_four min_four   -- for this text's walks alone

section
/-! ### impl_typeWords: function 54 -/
def impl_typeWords.f  : Option (List ByteArray) := some (([(⟨#[]⟩ : ByteArray), (⟨#[98, 111, 111, 108]⟩ : ByteArray), (⟨#[105, 110, 116]⟩ : ByteArray), (⟨#[116, 101, 120, 116]⟩ : ByteArray), (⟨#[98, 121, 116, 101, 115]⟩ : ByteArray)] : List ByteArray))
set_option maxHeartbeats 8000000 in
set_option maxRecDepth 100000 in
theorem impl_typeWords.calls  (r : List ByteArray) (w : World) (h : impl_typeWords.f  = some r) :
    Calls Tryz.prog 54 #[] w fun e w' => ∃ v0_ : Value, e = .returned (v0_) ∧ Kd.R Kd.string 9 w' w.heap.size (fun _ => True) v0_ r ∧ Below w.heap.size w w' := by
  have HB := ak_ (Below.refl w.heap.size w)
  have H : (some (([(⟨#[]⟩ : ByteArray), (⟨#[98, 111, 111, 108]⟩ : ByteArray), (⟨#[105, 110, 116]⟩ : ByteArray), (⟨#[116, 101, 120, 116]⟩ : ByteArray), (⟨#[98, 121, 116, 101, 115]⟩ : ByteArray)] : List ByteArray))) = some r := h
  clear h
  obtain ⟨y101, hy101⟩ : ∃ y_ : List ByteArray, y_ = (([(⟨#[]⟩ : ByteArray), (⟨#[98, 111, 111, 108]⟩ : ByteArray), (⟨#[105, 110, 116]⟩ : ByteArray), (⟨#[116, 101, 120, 116]⟩ : ByteArray), (⟨#[98, 121, 116, 101, 115]⟩ : ByteArray)] : List ByteArray)) := ⟨_, rfl⟩
  replace H : (some y101) = some r := by first | (rw [hy101]; with_reducible exact H) | (have H2_ := (Option.bind_some _ _).symm.trans H; rw [hy101]; with_reducible exact H2_) | (have H2_ := (Option.bind_some _ _).symm.trans H; with_reducible exact H2_) | with_reducible exact H | (rw [hy101]; exact H) | exact H
  have Ny101 := ak_ hy101
  clear hy101
  obtain rfl := Option.some.inj H
  go_enter Tryz.func54, Tryz.ntmps54
  go_wp2_with (first | ((with_reducible refine gate_dst (N := 1) rfl ?_); refine Kd.R_lit Kd.string _ 9 ?hg (N := 1) ?hd (xs := ([(⟨#[]⟩ : ByteArray), (⟨#[98, 111, 111, 108]⟩ : ByteArray), (⟨#[105, 110, 116]⟩ : ByteArray), (⟨#[116, 101, 120, 116]⟩ : ByteArray), (⟨#[98, 121, 116, 101, 115]⟩ : ByteArray)] : List ByteArray)) (inner := [.string (⟨#[]⟩ : ByteArray), .string (⟨#[98, 111, 111, 108]⟩ : ByteArray), .string (⟨#[105, 110, 116]⟩ : ByteArray), .string (⟨#[116, 101, 120, 116]⟩ : ByteArray), .string (⟨#[98, 121, 116, 101, 115]⟩ : ByteArray)]) (ok := fun _ => True) (okp := fun _ => True) ?hr ?hp (fun _ hk => hk) trivial (Below.refl _ _) (Nat.le_refl _) (by simp) ?_; (case hd => rfl); (case hg => rfl); (case hr => first | (go_simp; done) | (go_simp; rfl)); (case hp => exact (Reps.one (show Kd.M Kd.string _ _ _ (⟨#[]⟩ : ByteArray) [.string (⟨#[]⟩ : ByteArray)] from rfl) (Reps.one (show Kd.M Kd.string _ _ _ (⟨#[98, 111, 111, 108]⟩ : ByteArray) [.string (⟨#[98, 111, 111, 108]⟩ : ByteArray)] from rfl) (Reps.one (show Kd.M Kd.string _ _ _ (⟨#[105, 110, 116]⟩ : ByteArray) [.string (⟨#[105, 110, 116]⟩ : ByteArray)] from rfl) (Reps.one (show Kd.M Kd.string _ _ _ (⟨#[116, 101, 120, 116]⟩ : ByteArray) [.string (⟨#[116, 101, 120, 116]⟩ : ByteArray)] from rfl) (Reps.one (show Kd.M Kd.string _ _ _ (⟨#[98, 121, 116, 101, 115]⟩ : ByteArray) [.string (⟨#[98, 121, 116, 101, 115]⟩ : ByteArray)] from rfl) (Reps.none _ _))))))); intro v102 w1 ho2 hb hg_ hnew_; clear hg_ hnew_; (first | rw [← Ny101.out] at ho2 | (simp only [Int.reduceToNat] at ho2; rw [← Ny101.out] at ho2)); have n_ := a2_ (Kd.R_lower ho2 (below_size z1_)) (below_step z1_ hb); clear HB; obtain ⟨HO103, HB⟩ := n_; clear hb ho2))
  go_ret
  exact ⟨_, z7_, z31_, z1_⟩
end

section
/-! ### strings_Join: function 55 -/
-- XIMP Derived.Test.YtjknmljdnolilaaGreatDoorShelf
-- XIMP Derived.Shelf.Strings.OnBuilder
def strings_Join.f (l0 : List ByteArray) (a1 : ByteArray) : Option ByteArray := if l0.length ≤ 140737488355328 ∧ (Lib.join (l0.map (·.data.toList)) a1.data.toList).length ≤ 140737488355328 then some ⟨(Lib.join (l0.map (·.data.toList)) a1.data.toList).toArray⟩ else none
theorem strings_Join.spot {e base : Nat} {w : World} {ok : Nat → Prop} {A : Option Addr} {n c : Nat} {xs : List ByteArray} (h : Kd.R Kd.string e w base ok (.slice A n c) xs) : ∀ a, A = some a → a.spot = none := by
  intro a ha
  subst ha
  obtain ⟨_, inner, ho, _⟩ := h
  rcases ho.2 with ⟨hv, _⟩ | ⟨g, cap, cur, hv, _⟩
  · cases hv
  injection hv with hv _ _
  injection hv with hv
  subst hv; rfl
theorem strings_Join.calls (A0 : Option Addr) (c0 : Nat) (l0 : List ByteArray) (a1 : ByteArray) (r : ByteArray) (w : World) (hr0 : Kd.C Kd.string w A0 l0.length l0) (hc0 : l0.length ≤ c0) (h : strings_Join.f l0 a1 = some r) (hsp : ∀ a, A0 = some a → a.spot = none) :
    Calls Tryz.prog 55 #[.slice A0 l0.length c0, .string a1] w fun e w' => e = .returned (.string r) ∧ Below w.heap.size w w' := by
  unfold strings_Join.f at h
  by_cases hlm : l0.length ≤ 140737488355328 ∧ (Lib.join (l0.map (·.data.toList)) a1.data.toList).length ≤ 140737488355328
  case neg => rw [if_neg hlm] at h; cases h
  rw [if_pos hlm] at h
  obtain ⟨hn, hl⟩ := hlm
  obtain rfl := Option.some.inj h
  cases l0 with
  | nil =>
    refine (Any.strings_Join_none Tryz.lays156 Tryz.Builder_Extra_156 A0 c0 a1 w).mono fun e w' ⟨he, hw⟩ => ⟨?_, hw ▸ Below.refl _ _⟩
    rw [he]; simp [Lib.join]
  | cons x xs =>
    generalize hL : x :: xs = l0 at *
    have hpos : 0 < l0.length := by rw [← hL]; simp
    obtain ⟨ad, rfl, hc⟩ := Kd.at_string hr0 0 (by omega) (by omega)
    have hs := hsp ad rfl
    obtain ⟨bk, o, sp⟩ := ad
    subst hs
    refine Any.strings_Join Tryz.lays156 Tryz.Builder_Extra_156 bk o c0 l0 a1 w (fun j y hy => ?_) (World.block_lt_of_cell? w _ (by simpa [Addr.add] using hc)) ?_ hc0 hl
    rotate_left
    · exact hn

    obtain ⟨hj, rfl⟩ := List.getElem?_eq_some_iff.1 hy
    obtain ⟨ad2, e2, hc2⟩ := Kd.at_string hr0 (j : Int) (by omega) (by omega)
    cases e2
    have e3 : rdOf ByteArray.empty l0 (j : Int) = l0[j] := by simp [rdOf, hj]
    rw [e3] at hc2
    have e4 : (⟨bk, o, none⟩ : Addr).add ((j : Int)).toNat = ⟨bk, o + j, none⟩ := by
      show (⟨bk, o, none⟩ : Addr).add j = _
      unfold Addr.add
      split
      · rename_i h0; subst h0; rfl
      · rfl
    rw [e4] at hc2
    exact hc2
end

section
/-! ### strconv_Itoa_88: function 88 -/
-- XIMP Derived.Test.YtjknmljdnolilaaGreatDoorShelf
-- XIMP Derived.Shelf.Strconv.Itoa3
def strconv_Itoa_88.f (a0 : Int) : Option ByteArray := if 0 ≤ a0 ∧ a0 < 100 then some ⟨(Lib.decDigits a0.toNat).toArray⟩ else none
theorem strconv_Itoa_88.calls (a0 : Int) (r : ByteArray) (w : World) (h : strconv_Itoa_88.f a0 = some r) :
    Calls Tryz.prog 88 #[.int .i64 a0] w fun e w' => e = .returned (.string r) ∧ Drawn0 w w' := by
  unfold strconv_Itoa_88.f at h
  by_cases c : 0 ≤ a0 ∧ a0 < 100
  case neg => rw [if_neg c] at h; cases h
  rw [if_pos c] at h
  obtain rfl := Option.some.inj h
  have := Any.strconv_Itoa_small Tryz.lays171 a0.toNat (by omega) w
  rw [show ((a0.toNat : Nat) : Int) = a0 by omega] at this
  exact this.mono fun e w' ⟨he, hw⟩ => ⟨he, hw ▸ Drawn0.refl _⟩
end

section
/-! ### impl_formatInt: function 56 -/
def impl_formatInt.f (a0 : Int) : Option (ByteArray) := (strconv_Itoa_88.f a0).bind fun t101 => (some t101)
set_option maxHeartbeats 8000000 in
set_option maxRecDepth 100000 in
theorem impl_formatInt.calls (a0 : Int) (r : ByteArray) (w : World) (h : impl_formatInt.f a0 = some r) :
    Calls Tryz.prog 56 #[.int .i64 a0] w fun e w' => e = .returned (.string r) ∧ Drawn0 w w' := by
  have H : ((strconv_Itoa_88.f a0).bind fun t101 => (some t101)) = some r := h
  clear h
  replace H := Option.bind_eq_some_iff.mp H
  obtain ⟨t101, A20, H⟩ := H
  have A2 := ak_ A20
  clear A20
  obtain rfl := Option.some.inj H
  go_enter Tryz.func56, Tryz.ntmps56
  go_wp2_with (first | ((with_reducible refine gate_callee (f := 88) rfl ?_); refine goesL_ (some 4) rfl rfl Tryz.func88 (by kernel_rfl) rfl #[.int .i64 a0] rfl z3_ ?_; (with_reducible refine (strconv_Itoa_88.calls a0 t101 _ A2.out).mono ?_); rintro e w' ⟨rfl, ⟨nd, rfl⟩⟩; refine ⟨_, rfl, ?_⟩))
  go_ret
  exact ⟨z9_, z11_⟩
end

end Go.Proofs.YtjknmljdnolilaaGreatDoor.X
end
