/- WordReckons: sums, differences and products of any numbers of 32 bits go round as the document says. For every a, b and every list (one of more than 300 numbers is let go by the statement itself); no condition. -/
import Derived.Test.YtlfhgednlljkoaaQDiv
namespace Go.Proofs.Ytlfhgednlljkoaa.Pure
open Go.RowKit Go.Proofs.Ytlfhgednlljkoaa.P Go.Proofs.Ytlfhgednlljkoaa.Q Go.Proofs.Ytlfhgednlljkoaa.C Go.Proofs.YtlfhgednlljkoaaW.PrintWords Go.Proofs.YtlfhgednlljkoaaW.PrintLast

theorem rd_nat (xs : List Int) (j : Nat) (h : j < xs.length) : rd xs (j : Int) = xs[j] := by
  simp [rd, List.getD_eq_getElem?_getD, h]
theorem next_nat (j n : Nat) (h : j < n) (hn : n ≤ 9223372036854775807) : wrap64 ((j : Int) + 1) = ((j + 1 : Nat) : Int) := by
  rw [wrap64_in (by omega)]; omega
def addAll (n : Int) (xs : List Int) : Int := xs.foldl (fun s x => wrap32 (s + x)) n
def mulAll (n : Int) (xs : List Int) : Int := xs.foldl (fun s x => wrap32 (s * x)) n
theorem addAll_drop (n : Int) (xs : List Int) (j : Nat) (h : j < xs.length) : addAll n (xs.drop j) = addAll (wrap32 (n + xs[j])) (xs.drop (j + 1)) := by
  unfold addAll; rw [List.drop_eq_getElem_cons h, List.foldl_cons]
theorem mulAll_drop (n : Int) (xs : List Int) (j : Nat) (h : j < xs.length) : mulAll n (xs.drop j) = mulAll (wrap32 (n * xs[j])) (xs.drop (j + 1)) := by
  unfold mulAll; rw [List.drop_eq_getElem_cons h, List.foldl_cons]
theorem sum_loop (xs : List Int) (hl : xs.length ≤ 9223372036854775807) (d : Nat) : ∀ (k j : Nat) (n : Int), xs.length - j = d → j ≤ xs.length → d < k →
    word_Sum.l0 k n xs (xs.length : Int) (j : Int) = some (addAll n (xs.drop j)) := by
  induction d with
  | zero =>
    intro k j n hd hj hk
    obtain ⟨k, rfl⟩ : ∃ m, k = m + 1 := ⟨k - 1, by omega⟩
    simp only [word_Sum.l0]; rw [if_neg (by omega), List.drop_eq_nil_of_le (by omega)]; rfl
  | succ d ih =>
    intro k j n hd hj hk
    obtain ⟨k, rfl⟩ : ∃ m, k = m + 1 := ⟨k - 1, by omega⟩
    have hlt : j < xs.length := by omega
    simp only [word_Sum.l0]
    rw [if_pos (by omega), if_pos (by omega), if_pos (by omega), rd_nat xs j hlt, next_nat j xs.length hlt hl, ih k (j + 1) _ (by omega) (by omega) (by omega), addAll_drop n xs j hlt]
theorem times_loop (xs : List Int) (hl : xs.length ≤ 9223372036854775807) (d : Nat) : ∀ (k j : Nat) (n : Int), xs.length - j = d → j ≤ xs.length → d < k →
    word_Times.l0 k n xs (xs.length : Int) (j : Int) = some (mulAll n (xs.drop j)) := by
  induction d with
  | zero =>
    intro k j n hd hj hk
    obtain ⟨k, rfl⟩ : ∃ m, k = m + 1 := ⟨k - 1, by omega⟩
    simp only [word_Times.l0]; rw [if_neg (by omega), List.drop_eq_nil_of_le (by omega)]; rfl
  | succ d ih =>
    intro k j n hd hj hk
    obtain ⟨k, rfl⟩ : ∃ m, k = m + 1 := ⟨k - 1, by omega⟩
    have hlt : j < xs.length := by omega
    simp only [word_Times.l0]
    rw [if_pos (by omega), if_pos (by omega), if_pos (by omega), rd_nat xs j hlt, next_nat j xs.length hlt hl, ih k (j + 1) _ (by omega) (by omega) (by omega), mulAll_drop n xs j hlt]
theorem sum_f (xs : List Int) (hl : xs.length ≤ 9223372036854775807) (k : Nat) (hk : xs.length < k) : word_Sum.f k xs = some (addAll 0 xs) := by
  unfold word_Sum.f
  have := sum_loop xs hl xs.length k 0 0 (by omega) (by omega) hk
  rw [List.drop_zero] at this
  exact this
theorem times_f (xs : List Int) (hl : xs.length ≤ 9223372036854775807) (k : Nat) (hk : xs.length < k) : word_Times.f k xs = some (mulAll 1 xs) := by
  unfold word_Times.f
  have := times_loop xs hl xs.length k 0 1 (by omega) (by omega) hk
  rw [List.drop_zero] at this
  exact this
theorem prod_range (x y : Int) (hx : -2147483648 ≤ x ∧ x ≤ 2147483647) (hy : -2147483648 ≤ y ∧ y ≤ 2147483647) : -9223372036854775808 ≤ x * y ∧ x * y ≤ 9223372036854775807 := by
  have e1 : (x * y).natAbs ≤ 2147483648 * 2147483648 := by rw [Int.natAbs_mul]; exact Nat.mul_le_mul (by omega) (by omega)
  omega
theorem rtimes_eq (x y : Int) (hx : -2147483648 ≤ x ∧ x ≤ 2147483647) (hy : -2147483648 ≤ y ∧ y ≤ 2147483647) : pascalineref01_Times.f x y = some (wrap32 (x * y)) := by
  unfold pascalineref01_Times.f
  have := prod_range x y hx hy
  rw [wrap64_in (n := x) (by omega), wrap64_in (n := y) (by omega), wrap64_in this, round_eq _ this]; rfl
theorem law_loop (a b : Int) (xs : List Int) (ha : -2147483648 ≤ a ∧ a ≤ 2147483647) (hb : -2147483648 ≤ b ∧ b ≤ 2147483647) (hw : ∀ x ∈ xs, -2147483648 ≤ x ∧ x ≤ 2147483647) (hl : xs.length ≤ 300) (d : Nat) :
    ∀ (k j : Nat) (s p : Int), xs.length - j = d → j ≤ xs.length → d + xs.length + 4 < k → (-2147483648 ≤ s ∧ s ≤ 2147483647) → (-2147483648 ≤ p ∧ p ≤ 2147483647) →
    addAll s (xs.drop j) = addAll 0 xs → mulAll p (xs.drop j) = mulAll 1 xs → pascalinelaw01_WordReckons.l0 k a b xs s p (j : Int) = some true := by
  induction d with
  | zero =>
    intro k j s p hd hj hk hs hp h1 h2
    obtain ⟨k, rfl⟩ : ∃ m, k = m + 1 := ⟨k - 1, by omega⟩
    rw [List.drop_eq_nil_of_le (by omega)] at h1 h2
    have h1 : s = addAll 0 xs := h1
    have h2 : p = mulAll 1 xs := h2
    simp only [pascalinelaw01_WordReckons.l0]
    rw [if_neg (by omega), sum_f xs (by omega) k (by omega)]
    simp only [Option.bind_some]
    rw [if_pos h1.symm, times_f xs (by omega) k (by omega)]
    simp only [Option.bind_some]
    rw [if_pos h2.symm]
    unfold word_Minus.f
    simp only [Option.bind_some]
    rw [wrap64_in (n := a) (by omega), wrap64_in (n := b) (by omega), wrap64_in (n := a - b) (by omega), round_eq _ (by omega)]
    simp only [Option.bind_some]
    rw [if_pos trivial, times_f [a, b] (by simp) k (by simp; omega), rtimes_eq a b ha hb]
    simp only [Option.bind_some]
    have e1 : mulAll 1 [a, b] = wrap32 (a * b) := by
      show wrap32 (wrap32 (1 * a) * b) = _
      rw [Int.one_mul, wrap32_in ha]
    rw [if_pos e1, sum_f [a, b] (by simp) k (by simp; omega)]
    simp only [Option.bind_some]
    rw [wrap64_in (n := a + b) (by omega), round_eq _ (by omega)]
    have e2 : addAll 0 [a, b] = wrap32 (a + b) := by
      show wrap32 (wrap32 (0 + a) + b) = _
      rw [Int.zero_add, wrap32_in ha]
    simp [e2]
  | succ d ih =>
    intro k j s p hd hj hk hs hp h1 h2
    obtain ⟨k, rfl⟩ : ∃ m, k = m + 1 := ⟨k - 1, by omega⟩
    have hlt : j < xs.length := by omega
    have hx := hw _ (List.getElem_mem hlt)
    rw [addAll_drop s xs j hlt] at h1
    rw [mulAll_drop p xs j hlt] at h2
    simp only [pascalinelaw01_WordReckons.l0]
    rw [if_pos (by omega), if_pos (by omega), rd_nat xs j hlt, wrap64_in (n := s) (by omega), wrap64_in (n := xs[j]) (by omega), wrap64_in (n := s + xs[j]) (by omega), round_eq _ (by omega)]
    simp only [Option.bind_some]
    rw [rtimes_eq p xs[j] hp hx]
    simp only [Option.bind_some]
    rw [next_nat j xs.length hlt (by omega)]
    exact ih k (j + 1) _ _ (by omega) (by omega) (by omega) (wrap32_range _) (wrap32_range _) h1 h2
theorem WordReckons : pascalinelaw01_WordReckons.Pure := by
  intro a b xs ha hb _ _ hw
  refine ⟨700, ?_⟩
  unfold pascalinelaw01_WordReckons.f
  rw [awake_eq]
  simp only [Option.bind_some]
  rw [if_pos trivial]
  by_cases hl : (xs.length : Int) > 300
  · rw [if_pos hl]
  · rw [if_neg hl]
    exact law_loop a b xs (bounds_i32 ha) (bounds_i32 hb) (fun x hx => bounds_i32 (hw x hx)) (by omega) xs.length 700 0 0 1 (by omega) (by omega) (by omega) (by omega) (by omega) (by rw [List.drop_zero]) (by rw [List.drop_zero])
end Go.Proofs.Ytlfhgednlljkoaa.Pure
