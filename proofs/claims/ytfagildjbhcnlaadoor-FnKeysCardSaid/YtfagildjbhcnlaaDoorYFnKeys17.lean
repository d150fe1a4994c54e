/- Contracts of functions, and what is told of them. -/
import Derived.Test.YtfagildjbhcnlaaDoorYFnKeys16
import Derived.Laws.Bits64b
import Derived.Test.YtfagildjbhcnlaaDoorRows
import Derived.LaidByTextLater
import Derived.SevenTiedAt
import Derived.LaidSub
import Derived.LaidOnce
import GoSem.ClaimSeven
set_option linter.unusedSimpArgs false
set_option linter.unusedVariables false
section
/- A row is read back from its key bytes. -/
namespace Go.Proofs.YtfagildjbhcnlaaDoor.Pure
open Go.RowKit Go.Proofs.YtfagildjbhcnlaaDoor.X Go.Proofs.YtfagildjbhcnlaaDoorW.PrintWords Go.Proofs.YtfagildjbhcnlaaDoorW.PrintLast
def vl : Int → List Int → Int
  | x, [] => x
  | x, c :: l => vl (x * 256 + c) l
theorem vl_app : ∀ (l : List Int) (x c : Int), vl x (l ++ [c]) = vl x l * 256 + c
  | [], x, c => rfl
  | a :: l, x, c => by rw [List.cons_append, vl, vl, vl_app l]
theorem vl_be : ∀ n x, hi n x = 0 → vl 0 (be n x) = x
  | 0, x, h => by have h : x = 0 := h; rw [be, vl, h]
  | n + 1, x, h => by rw [be, vl_app, vl_be n (x / 256) h]; omega
theorem vl_eight (b : Int) (h : -9223372036854775808 ≤ b ∧ b ≤ 9223372036854775807) : vl 0 (eight b) = b + 9223372036854775808 := by rw [eight_be, vl_be 8 _ (hi_zero b h)]
theorem or_byte (A c : Int) (h0 : 0 ≤ A) (h1 : A * 256 + 255 < 18446744073709551616) (h2 : 0 ≤ c ∧ c ≤ 255) : Go.bits .or .u64 (IntKind.u64.wrap (A * 256)) (IntKind.u64.wrap c) = A * 256 + c := by
  rw [IntKind.wrap_u64, IntKind.wrap_u64]
  obtain ⟨n, rfl⟩ : ∃ n : Nat, A = (n : Int) := ⟨A.toNat, by omega⟩
  obtain ⟨m, rfl⟩ : ∃ m : Nat, c = (m : Int) := ⟨c.toNat, by omega⟩
  rw [show (n : Int) * 256 % 18446744073709551616 = ((256 * n : Nat) : Int) by omega, show (m : Int) % 18446744073709551616 = (m : Int) by omega, bits_or_u64_nat (256 * n) m (by omega) (by omega)]
  rw [show (256 : Nat) = 2 ^ 8 from rfl, ← Nat.two_pow_add_eq_or_of_lt (show m < 2 ^ 8 by omega) n]
  omega
theorem num_l0 (L : List Int) (hL : ∀ c ∈ L, 0 ≤ c ∧ c ≤ 255) (h8 : L.length = 8) : ∀ (d i : Nat) (x : Int), i + d = 8 → 0 ≤ x → (x + 1) * 256 ^ d ≤ 18446744073709551616 → Ev (fun k => impl_highNumber_byte.l0 k L x (L.length : Int) (i : Int)) (vl x (L.drop i))
  | 0, i, x, h, h0, h1 => by
    rw [List.drop_of_length_le (by omega), vl]
    exact Ev.step (f := fun _ => some x) (fun k => by rw [impl_highNumber_byte.l0, if_neg (by omega)]) (Ev.now _)
  | d + 1, i, x, h, h0, h1 => by
    have hlt : i < L.length := by omega
    have hc := hL _ (List.getElem_mem hlt)
    have hp : (0 : Int) < 256 ^ d := Int.pow_pos (by decide)
    rw [Int.pow_succ] at h1
    have h2 : (x * 256 + L[i] + 1) * 256 ^ d ≤ 18446744073709551616 := by
      refine Int.le_trans (Int.mul_le_mul_of_nonneg_right (show x * 256 + L[i] + 1 ≤ (x + 1) * 256 by omega) (Int.le_of_lt hp)) ?_
      rw [Int.mul_assoc, Int.mul_comm 256]; exact h1
    have h3 : (x + 1) * 256 ≤ 18446744073709551616 := by
      refine Int.le_trans ?_ h1
      rw [← Int.mul_assoc, Int.mul_assoc, Int.mul_comm (256 ^ d) 256, ← Int.mul_assoc]
      have : (x + 1) * 256 * 1 ≤ (x + 1) * 256 * 256 ^ d := Int.mul_le_mul_of_nonneg_left (by omega) (by omega)
      omega
    rw [List.drop_eq_getElem_cons hlt, vl]
    have hr : rd L (i : Int) = L[i] := by simp [rd, hlt]
    exact Ev.step (fun k => by rw [impl_highNumber_byte.l0, if_pos (by omega), if_pos (by omega), if_pos (by omega), hr, or_byte x L[i] h0 (by omega) hc, show wrap64 ((i : Int) + 1) = ((i + 1 : Nat) : Int) by unfold wrap64; omega]) (num_l0 L hL h8 d (i + 1) _ (by omega) (by omega) h2)
theorem eight_byte (b : Int) : ∀ c ∈ eight b, 0 ≤ c ∧ c ≤ 255 := by
  intro c hc
  unfold eight at hc
  simp only [List.mem_cons, List.not_mem_nil, or_false] at hc
  omega
theorem num_is (b : Int) (h : -9223372036854775808 ≤ b ∧ b ≤ 9223372036854775807) : Ev (fun k => impl_highNumber_byte.f k (eight b)) (b + 9223372036854775808) := by
  have e := num_l0 (eight b) (eight_byte b) rfl 8 0 0 rfl (by decide) (by decide)
  rw [List.drop_zero, vl_eight b h] at e
  exact Ev.congr (fun k => by unfold impl_highNumber_byte.f; rfl) e
theorem back_is (b : Int) (h : -9223372036854775808 ≤ b ∧ b ≤ 9223372036854775807) : wrap64 (Go.bits .xor .u64 (b + 9223372036854775808) 9223372036854775808) = b := by
  obtain ⟨n, hn⟩ : ∃ n : Nat, b + 9223372036854775808 = (n : Int) := ⟨(b + 9223372036854775808).toNat, by omega⟩
  rw [hn, show (9223372036854775808 : Int) = ((9223372036854775808 : Nat) : Int) from rfl, bits_xor_u64_nat n 9223372036854775808 (by omega) (by omega)]
  have f := flip_top 63 n (by show n < 18446744073709551616; omega)
  rw [show (2 : Nat) ^ 63 = 9223372036854775808 from rfl, show (2 : Nat) ^ (63 + 1) = 18446744073709551616 from rfl] at f
  rw [f]
  unfold wrap64
  omega
theorem rd_mid (pre r : List Int) (a : Int) (i : Int) (h : i = (pre.length : Int)) : rd (pre ++ a :: r) i = a := by
  subst h
  unfold rd
  rw [List.getD_eq_getElem?_getD, Int.toNat_natCast, List.getElem?_append_right (Nat.le_refl _), Nat.sub_self]; rfl
theorem strOf_bytes (l : List UInt8) : strOfNums (l.map fun b => (b.toNat : Int)) = ⟨l.toArray⟩ := by
  unfold strOfNums
  rw [List.map_map]
  have : ((fun n : Int => UInt8.ofNat n.toNat) ∘ fun b : UInt8 => (b.toNat : Int)) = id := by funext b; simp
  rw [this, List.map_id]
theorem text_l0 (s : List Int) : ∀ (l : List UInt8) (pre acc : List Int) (i : Int), i = (pre.length : Int) → pre.length + 2 * l.length + s.length ≤ 1000000 → acc.length + l.length ≤ 1000000 →
    Ev (fun k => impl_readKeyText.l0 k (pre ++ (esc l ++ 0 :: 1 :: s)) acc i) (strOfNums (acc ++ l.map fun b => (b.toNat : Int)), i + (esc l).length + 2)
  | [], pre, acc, i, hi, hb, hc => by
    have hL : (pre ++ (esc [] ++ 0 :: 1 :: s)).length = pre.length + (s.length + 2) := by rw [List.length_append]; rfl
    have r0 : rd (pre ++ (esc [] ++ 0 :: 1 :: s)) i = 0 := rd_mid pre (1 :: s) 0 i hi
    have w : wrap64 (i + 1) = i + 1 := by unfold wrap64; omega
    have w2 : wrap64 (i + 1 + 1) = i + 2 := by unfold wrap64; omega
    have r1 : rd (pre ++ (esc [] ++ 0 :: 1 :: s)) (i + 1) = 1 := by
      have := rd_mid (pre ++ [0]) s 1 (i + 1) (by rw [List.length_append, List.length_singleton]; omega)
      rw [List.append_assoc] at this; exact this
    refine Ev.step (f := fun _ => some (strOfNums acc, i + 2)) (fun k => ?_) ?_
    · rw [impl_readKeyText.l0, if_pos (by rw [hL]; omega), if_pos (by omega), if_pos r0, w, if_neg (by rw [hL]; omega), if_pos (by omega), if_pos (by rw [hL]; omega), if_pos r1, w2]
    · rw [List.map_nil, List.append_nil, show i + ((esc []).length : Int) + 2 = i + 2 by show i + 0 + 2 = i + 2; omega]; exact Ev.now _
  | c :: l, pre, acc, i, hi, hb, hc => by
    rw [List.length_cons] at hb hc
    have hl := esc_length l
    by_cases z : c.toNat = 0
    · rw [esc_zero c l z]
      have ih := text_l0 s l (pre ++ [0, 255]) (acc ++ [0]) (i + 2) (by rw [List.length_append]; show i + 2 = ((pre.length + 2 : Nat) : Int); omega) (by rw [List.length_append]; show pre.length + 2 + 2 * l.length + s.length ≤ 1000000; omega) (by rw [List.length_append, List.length_singleton]; omega)
      have e : pre ++ [0, 255] ++ (esc l ++ 0 :: 1 :: s) = pre ++ (0 :: 255 :: esc l ++ 0 :: 1 :: s) := by rw [List.append_assoc]; rfl
      rw [e] at ih
      have hL : (pre ++ (0 :: 255 :: esc l ++ 0 :: 1 :: s)).length = pre.length + ((esc l).length + s.length + 4) := by simp only [List.length_append, List.length_cons]; omega
      have r0 : rd (pre ++ (0 :: 255 :: esc l ++ 0 :: 1 :: s)) i = 0 := rd_mid pre _ 0 i hi
      have w : wrap64 (i + 1) = i + 1 := by unfold wrap64; omega
      have w2 : wrap64 (i + 1 + 1) = i + 2 := by unfold wrap64; omega
      have r1 : rd (pre ++ (0 :: 255 :: esc l ++ 0 :: 1 :: s)) (i + 1) = 255 := by
        have := rd_mid (pre ++ [0]) (esc l ++ 0 :: 1 :: s) 255 (i + 1) (by rw [List.length_append, List.length_singleton]; omega)
        rw [List.append_assoc] at this; exact this
      have e2 : acc ++ [0] ++ l.map (fun b => (b.toNat : Int)) = acc ++ (c :: l).map fun b => (b.toNat : Int) := by rw [List.map_cons, z, List.append_assoc]; rfl
      rw [e2] at ih
      have e3 : i + 2 + ((esc l).length : Int) + 2 = i + ((0 :: 255 :: esc l : List Int).length : Int) + 2 := by simp only [List.length_cons]; omega
      rw [e3] at ih
      exact Ev.step (fun k => by rw [impl_readKeyText.l0, if_pos (by rw [hL]; omega), if_pos (by omega), if_pos r0, w, if_neg (by rw [hL]; omega), if_pos (by omega), if_pos (by rw [hL]; omega), if_neg (by rw [r1]; decide), if_pos r1, if_pos (by omega), w2]) ih
    · rw [esc_some c l z]
      have ih := text_l0 s l (pre ++ [(c.toNat : Int)]) (acc ++ [(c.toNat : Int)]) (i + 1) (by rw [List.length_append, List.length_singleton]; omega) (by rw [List.length_append, List.length_singleton]; omega) (by rw [List.length_append, List.length_singleton]; omega)
      have e : pre ++ [(c.toNat : Int)] ++ (esc l ++ 0 :: 1 :: s) = pre ++ ((c.toNat : Int) :: esc l ++ 0 :: 1 :: s) := by rw [List.append_assoc]; rfl
      rw [e] at ih
      have hL : (pre ++ ((c.toNat : Int) :: esc l ++ 0 :: 1 :: s)).length = pre.length + ((esc l).length + s.length + 3) := by simp only [List.length_append, List.length_cons]; omega
      have r0 : rd (pre ++ ((c.toNat : Int) :: esc l ++ 0 :: 1 :: s)) i = (c.toNat : Int) := rd_mid pre _ _ i hi
      have w : wrap64 (i + 1) = i + 1 := by unfold wrap64; omega
      have e2 : acc ++ [(c.toNat : Int)] ++ l.map (fun b => (b.toNat : Int)) = acc ++ (c :: l).map fun b => (b.toNat : Int) := by rw [List.map_cons, List.append_assoc]; rfl
      rw [e2] at ih
      have e3 : i + 1 + ((esc l).length : Int) + 2 = i + (((c.toNat : Int) :: esc l : List Int).length : Int) + 2 := by simp only [List.length_cons]; omega
      rw [e3] at ih
      exact Ev.step (fun k => by rw [impl_readKeyText.l0, if_pos (by rw [hL]; omega), if_pos (by omega), r0, if_neg (by omega), if_pos (by omega), w]) ih
theorem text_is (t : ByteArray) (s : List Int) (hb : 2 * t.size + s.length ≤ 1000000) : Ev (fun k => impl_readKeyText.f k (esc t.data.toList ++ [0, 1] ++ s)) (t, ((esc t.data.toList).length : Int) + 2) := by
  have := text_l0 s t.data.toList [] [] 0 rfl (by rw [data_length]; simp only [List.length_nil]; omega) (by rw [data_length]; simp only [List.length_nil]; omega)
  rw [List.nil_append, List.nil_append, strOf_bytes, Int.zero_add] at this
  rw [List.append_assoc]
  exact this
theorem text_kind (a : Int) : impl_hasText.f a = some (decide (a = 3 ∨ a = 4)) := by
  unfold impl_hasText.f
  by_cases h : a = 3
  · rw [if_pos h, decide_eq_true (.inl h)]
  · rw [if_neg h]; by_cases h4 : a = 4
    · rw [h4]; rfl
    · rw [decide_eq_false (by omega)]; simp [h4]
theorem read_cell (v : S43) (hv : gval v) (s : List Int) (hs : s.length ≤ 100000) : Ev (fun k => impl_readCell.f k (cellB v ++ s) false) (v.f0, v.f1, v.f2, ((cellB v).length : Int)) := by
  have kv := vok_kind _ _ _ hv.1
  have vv := vok_of _ _ _ hv.1
  have rv := hv.2
  obtain ⟨a, b, t⟩ := v
  dsimp only at kv vv rv ⊢
  obtain ⟨tl, htl⟩ : ∃ tl, tl = (if a = 1 then [b % 256] else if a = 2 then eight b else if a = 3 ∨ a = 4 then esc t.data.toList ++ [0, 1] else []) := ⟨_, rfl⟩
  have e : cellB ⟨a, b, t⟩ = a % 256 :: tl := by rw [htl]; rfl
  rw [e]
  have r0 : wrap64 (rd (a % 256 :: tl ++ s) 0) = a := by rw [show rd (a % 256 :: tl ++ s) 0 = a % 256 from rfl]; unfold wrap64; omega
  have hd : (a % 256 :: tl ++ s).drop 1 = tl ++ s := rfl
  have L1 : (0 : Int) < ((a % 256 :: tl ++ s).length : Int) := by simp only [List.length_append, List.length_cons]; omega
  have L2 : (1 : Int) ≤ ((a % 256 :: tl ++ s).length : Int) := by omega
  have lc : ((a % 256 :: tl).length : Int) = (tl.length : Int) + 1 := by simp only [List.length_cons]; omega
  rw [lc]
  have F : ∀ k, impl_readCell.f k (a % 256 :: tl ++ s) false = (if a = 0 then (some (a, 0, (⟨#[]⟩ : ByteArray), 1)) else (if a = 1 then (impl_readCell.j0 k false (tl ++ s) (decide (((tl ++ s).length : Int) ≥ 1)) a 0 (⟨#[]⟩ : ByteArray)) else (impl_readCell.j0 k false (tl ++ s) false a 0 (⟨#[]⟩ : ByteArray)))) := fun k => by
    unfold impl_readCell.f
    rw [if_pos L1, if_pos L2, r0, hd]
  by_cases h0 : a = 0
  · have ht : tl = [] := by rw [htl, if_neg (by omega), if_neg (by omega), if_neg (by omega)]
    have v0 := vv.1 h0
    exact Ev.congr (f := fun _ => some (a, b, t, (tl.length : Int) + 1)) (fun k => by rw [F, if_pos h0, ht, v0.1, size_zero v0.2]; rfl) (Ev.now _)
  by_cases h1 : a = 1
  · have ht : tl = [b % 256] := by rw [htl, if_pos h1]
    have v1 := vv.2.1 h1
    have rb : wrap64 (rd ([b % 256] ++ s) 0) = b := by rw [show rd ([b % 256] ++ s) 0 = b % 256 from rfl]; unfold wrap64; omega
    have l1 : (0 : Int) < (([b % 256] ++ s).length : Int) := by simp only [List.length_append, List.length_singleton]; omega
    refine Ev.congr (fun k => by rw [F, if_neg h0, if_pos h1, ht, decide_eq_true (show (([b % 256] ++ s).length : Int) ≥ 1 by omega)]) ?_
    exact Ev.step (f := fun _ => some (a, b, t, ((([b % 256] : List Int).length : Int)) + 1)) (fun k => by rw [impl_readCell.j0, if_pos rfl, if_pos l1, rb, size_zero v1.2]; rfl) (by rw [ht]; exact Ev.now _)
  by_cases h2 : a = 2
  · have ht : tl = eight b := by rw [htl, if_neg h1, if_pos h2]
    have v2 := vv.2.2.1 h2
    have l8 : (eight b).length = 8 := rfl
    have ll : ((eight b ++ s).length : Int) ≥ 8 := by rw [List.length_append, l8]; omega
    have tk : (eight b ++ s).take 8 = eight b := by rw [List.take_append_of_le_length (by omega), List.take_of_length_le (by omega)]
    refine Ev.congr (fun k => by rw [F, if_neg h0, if_neg h1, ht]) ?_
    refine Ev.step (fun k => by rw [impl_readCell.j0, if_neg (by decide), if_pos h2, decide_eq_true ll]) ?_
    refine Ev.step (fun k => by rw [impl_readCell.j1, if_pos rfl, if_pos (show (8 : Int) ≤ ((eight b ++ s).length : Int) by omega), tk]) ?_
    refine Ev.bind (num_is b rv) ?_
    rw [ht, l8]
    exact Ev.congr (f := fun _ => some (a, b, t, ((8 : Nat) : Int) + 1)) (fun k => by rw [back_is b rv, size_zero v2]; rfl) (Ev.now _)
  have h34 : a = 3 ∨ a = 4 := by omega
  have ht : tl = esc t.data.toList ++ [0, 1] := by rw [htl, if_neg h1, if_neg h2, if_pos h34]
  have v3 := vv.2.2.2 h34
  have t60 := kv.2 h34
  refine Ev.congr (fun k => by rw [F, if_neg h0, if_neg h1]) ?_
  refine Ev.step (fun k => by rw [impl_readCell.j0, if_neg (by decide), if_neg h2]) ?_
  refine Ev.step (fun k => by rw [impl_readCell.j1, if_neg (by decide), text_kind, decide_eq_true h34, Option.bind_some, if_pos rfl, show (!false) = true from rfl]) ?_
  refine Ev.step (fun k => by rw [impl_readCell.j2, if_pos rfl]) ?_
  rw [ht]
  refine Ev.bind (text_is t s (by omega)) ?_
  have he := esc_length t.data.toList
  rw [data_length] at he
  exact Ev.congr (f := fun _ => some (a, b, t, (((esc t.data.toList ++ [0, 1]).length : Nat) : Int) + 1)) (fun k => by
    dsimp only
    rw [if_pos (by omega), v3, show wrap64 (((esc t.data.toList).length : Int) + 2 + 1) = (((esc t.data.toList ++ [0, 1]).length : Nat) : Int) + 1 by rw [List.length_append]; unfold wrap64; simp only [List.length_cons, List.length_nil]; omega]) (Ev.now _)
theorem read_cells : ∀ (W acc : List S43), (∀ w ∈ W, gval w) → acc.length + W.length ≤ 8 → Ev (fun k => impl_readCells.l0 k (kb W) false acc) (acc ++ W, rowok (acc ++ W))
  | [], acc, _, _ => by
    rw [List.append_nil]
    exact Ev.step (f := fun _ => some (acc, rowok acc)) (fun k => by rw [impl_readCells.l0, if_neg (by show ¬ ((0 : Nat) : Int) > 0; omega), impl_row]; rfl) (Ev.now _)
  | w :: W, acc, hw, hl => by
    rw [List.length_cons] at hl
    have hg := hw w (List.mem_cons_self ..)
    have hW := fun x h => hw x (List.mem_cons_of_mem _ h)
    have hk := kb_length W hW
    have ih := read_cells W (acc ++ [w]) hW (by rw [List.length_append, List.length_singleton]; omega)
    rw [List.append_assoc] at ih
    have hc := cellB_length w hg
    obtain ⟨c, l, e⟩ := cell_one w
    have hp : 1 ≤ (cellB w).length := by rw [e, List.length_cons]; omega
    rw [kb_cons]
    refine Ev.step (fun k => by rw [impl_readCells.l0, if_pos (by rw [List.length_append]; omega)]) ?_
    refine Ev.bind (read_cell w hg (kb W) (by omega)) ?_
    refine Ev.congr (fun k => ?_) ih
    dsimp only
    rw [if_neg (by omega), if_neg (by omega), if_pos (by omega), if_pos (by omega), if_pos (by rw [List.length_append]; omega), Int.toNat_natCast, List.drop_left]
theorem rowok_g (V : List S43) (hv : ∀ v ∈ V, gval v) (hl : V.length ≤ 8) : rowok V = true := by
  unfold rowok
  rw [decide_eq_true hl, Bool.true_and, List.all_eq_true]
  exact fun x hx => (hv x hx).1
theorem read_key (V : List S43) (hv : ∀ v ∈ V, gval v) (hl : V.length ≤ 8) : Ev (fun k => impl_ReadKey.f k (kb V)) (V, 0) := by
  have hk := kb_length V hv
  have e := read_cells V [] hv (by rw [List.length_nil]; omega)
  rw [List.nil_append, rowok_g V hv hl] at e
  refine Ev.congr (fun k => by unfold impl_ReadKey.f impl_readCells.f; rw [if_neg (by omega)]) ?_
  refine Ev.bind e ?_
  exact Ev.congr (f := fun _ => some (V, 0)) (fun k => by rw [if_pos rfl]) (Ev.now _)
end Go.Proofs.YtfagildjbhcnlaaDoor.Pure
end

section
/-
  DERIVED. GIVEN WITH THE SEED: THE PROGRAM's TIES (one call each: nine closed facts by the kernel) AND EACH ROW's TIE, after the 31st guide's Derived/Test/Toyas{Tie, Card}.lean. No idea stands in it: it is a product of the set-up. Laid BY PROGRAM, IN A SANDBOX (cutbox-door.mjs). By AI agents, Wed Nov 11 2026. No macro, syntax, notation, axiom, sorry.
-/
namespace Go.Proofs.YtfagildjbhcnlaaDoor
open Go
set_option maxRecDepth 100000
theorem seatTie1 : Tryd.prog.laidByTextLater [("unicode/utf8.acceptRanges", Rows.laid_unicode_utf8_acceptRanges)] [.data] true :=
  Program.laidByTextLater_by_one 19 8 33 (by kernel_rfl) (by kernel_rfl) (by kernel_rfl) (by kernel_rfl) (by kernel_rfl) (by kernel_rfl) (fun _ _ => by kernel_rfl)
theorem pin_laid_unicode_utf8_first : Tryd.pinned.checked.prog.pinnedFits "unicode/utf8.first" = true := by kernel_rfl
theorem noOwnUnsafe : Tryd.pinned.checked.prog.headLifts.contains "ownunsafe" = false := by kernel_rfl
theorem fits1 : Tryd.pinned.checked.prog.listedFits [("unicode/utf8.acceptRanges", Rows.laid_unicode_utf8_acceptRanges), ("unicode/utf8.first", Rows.laid_unicode_utf8_first)] = true := by
  unfold Program.listedFits
  rw [noOwnUnsafe]
  kernel_rfl
theorem tie : Tryd.prog.laidByTextLater [("unicode/utf8.acceptRanges", Rows.laid_unicode_utf8_acceptRanges)] [.data] true :=
  Program.laidByTextLater.sub seatTie1 ["unicode/utf8.acceptRanges"] (by kernel_rfl) (by kernel_rfl)
theorem fnKeys_row_tie : Rows.fnKeysRow.laidByTextAt .later Tryd.pinned [.data, .pinned] true :=
  OpenClaim.laidByTextAt_pinned rfl rfl tie rfl rfl rfl rfl (fun y hy _e => by
    simp only [Rows.fnKeysRow, List.zip_cons_cons, List.zip_nil_right, List.mem_cons, List.mem_nil_iff, or_false] at hy
    rcases hy with rfl | rfl
    · cases _e
    · exact ⟨pin_laid_unicode_utf8_first, by kernel_rfl⟩) fits1
theorem fnKeysUpto_row_tie : Rows.fnKeysUptoRow.laidByTextAt .later Tryd.pinned [.data, .pinned] true :=
  OpenClaim.laidByTextAt_pinned rfl rfl tie rfl rfl rfl rfl (fun y hy _e => by
    simp only [Rows.fnKeysUptoRow, List.zip_cons_cons, List.zip_nil_right, List.mem_cons, List.mem_nil_iff, or_false] at hy
    rcases hy with rfl | rfl
    · cases _e
    · exact ⟨pin_laid_unicode_utf8_first, by kernel_rfl⟩) fits1
end Go.Proofs.YtfagildjbhcnlaaDoor
end

section
/-
  DERIVED. GIVEN WITH THE SEED: THE CARDS: each row of YtfagildjbhcnlaaDoorRows.lean that lists a variable, with what it lists TIED to the program's text (the seventh form; the later family's looks); each row that meets fmt, with fmt's text TOLD by the authors' own Lean function (tested against real Go, not proved from fmt's source: count such statements apart). THE CARD IS WHAT COUNTS. Prove the row's statement (the work); the ties are given (YtfagildjbhcnlaaDoorTie.lean); close each card by the builder's one call (the guide's Derived/Test/ToyasCard.lean, 'card_holds'). Laid BY PROGRAM, IN A SANDBOX (cutbox-door.mjs). By AI agents, Wed Nov 11 2026. No macro, syntax, notation, axiom, sorry.
-/
namespace Go.Proofs.YtfagildjbhcnlaaDoor
namespace Rows

/-- THE TIED CARD OF 'laws.FnKeys'. -/
def fnKeysCard : Claim7 := { stood := { row := fnKeysRow, standIns := [], harness := (true, "17a8f790d93e2bb5bdca8027e94fd4d59cfa6b65a82220c11970306fc124b19a"), looks := false }, kinds := [], alts := [], laidByText := true, laidKinds := [.data, .pinned], laidTests := true, laidLooks := .later }
def FnKeysCardSaid : Prop := Claim7.holds Tryd.pinned (.plain (OpenSpec.ofChange fnKeysSpec)) fnKeysCard

/-- THE SECOND FORM's CARD OF 'laws.FnKeys'. -/
def fnKeysUptoCard : Claim7 := { stood := { row := fnKeysUptoRow, standIns := [], harness := (true, "17a8f790d93e2bb5bdca8027e94fd4d59cfa6b65a82220c11970306fc124b19a"), looks := false }, kinds := [], alts := [], laidByText := true, laidKinds := [.data, .pinned], laidTests := true, laidLooks := .later }
def FnKeysUptoCardSaid : Prop := Claim7.holds Tryd.pinned (.plain (OpenSpec.upto fnKeysSpec)) fnKeysUptoCard
end Rows
end Go.Proofs.YtfagildjbhcnlaaDoor
end
