/- WordBack: of any two numbers of 32 bits, the divisor times the quotient, and the rest, are the number again, going round; the rest lies on the divisor's side of 0, and is less than it. For every a, b of type int32; no condition. -/
import Derived.Test.YtlfhgednlljkoaaQDiv
namespace Go.Proofs.Ytlfhgednlljkoaa.Pure
open Go.RowKit Go.Proofs.Ytlfhgednlljkoaa.P Go.Proofs.Ytlfhgednlljkoaa.Q Go.Proofs.Ytlfhgednlljkoaa.C Go.Proofs.YtlfhgednlljkoaaW.PrintWords Go.Proofs.YtlfhgednlljkoaaW.PrintLast

theorem sum_two (k : Nat) (x y : Int) : word_Sum.f (k + 3) [x, y] = some (wrap32 (wrap32 (0 + x) + y)) := by
  unfold word_Sum.f
  simp [word_Sum.l0, rd, wrap64]
theorem times_two (k : Nat) (x y : Int) : word_Times.f (k + 3) [x, y] = some (wrap32 (wrap32 (1 * x) * y)) := by
  unfold word_Times.f
  simp [word_Times.l0, rd, wrap64]
theorem wrap32_mul (x y : Int) : wrap32 (wrap32 x * y) = wrap32 (x * y) := by
  have e : ∃ c, wrap32 x = x + c * 4294967296 := ⟨-((x + 2147483648) / 4294967296), by unfold wrap32; omega⟩
  obtain ⟨c, hc⟩ := e
  rw [hc, Int.add_mul, Int.mul_assoc, Int.mul_comm 4294967296 y, ← Int.mul_assoc]
  unfold wrap32
  omega
theorem wrap32_add (x y : Int) : wrap32 (wrap32 x + y) = wrap32 (x + y) := by unfold wrap32; omega
theorem back_j0 (k : Nat) (a b : Int) (ha : -2147483648 ≤ a ∧ a ≤ 2147483647) (h0 : b ≠ 0) :
    pascalinelaw01_WordBack.j0 (k + 4) a b (divOf a b).1 (divOf a b).2 (modOf a b).1 (modOf a b).2 false = some true := by
  have h1 : (divOf a b).2 = true := by unfold divOf; rw [if_neg h0]; split <;> rfl
  have h2 : (modOf a b).2 = true := by unfold modOf; rw [if_neg h0]; split <;> rfl
  rw [pascalinelaw01_WordBack.j0, h1, h2, if_neg (by simp), if_pos rfl, if_pos rfl, times_two]
  simp only [Option.bind_some]
  rw [sum_two]
  simp only [Option.bind_some]
  have hq := divOf_range a b
  rw [Int.one_mul, wrap32_mul, Int.zero_add, wrap32_in (n := wrap32 _) (wrap32_range _), wrap32_add]
  obtain ⟨g1, g2, g3, g4, g5⟩ := dm a b h0
  have key : wrap32 ((divOf a b).1 * b + (modOf a b).1) = wrap32 a := by
    unfold divOf modOf
    rw [if_neg h0, if_neg h0]
    have e : ∀ q r : Int, q * b + r = a → wrap32 (wrap32 q * b + r) = wrap32 a := fun q r h => by
      rw [← wrap32_add, wrap32_mul, wrap32_add, h]
    by_cases hc : a.tmod b = 0 ∨ (decide (a < 0) = decide (b < 0))
    · rw [if_pos hc, if_pos hc]
      exact e _ _ (by rw [Int.mul_comm]; exact g1)
    · rw [if_neg hc, if_neg hc]
      exact e _ _ (by rw [Int.mul_comm, Int.mul_sub]; omega)
  rw [key, wrap32_in ha]
  simp
theorem back_side (a b : Int) (h0 : b ≠ 0) : (0 < b → 0 ≤ (modOf a b).1 ∧ (modOf a b).1 < b) ∧ (b < 0 → (modOf a b).1 ≤ 0 ∧ b < (modOf a b).1) := by
  unfold modOf
  rw [if_neg h0]
  obtain ⟨g1, g2, g3, g4, g5⟩ := dm a b h0
  by_cases hc : a.tmod b = 0 ∨ (decide (a < 0) = decide (b < 0))
  · rw [if_pos hc]
    rcases hc with hc | hc
    · simp only; omega
    · have : a < 0 ↔ b < 0 := by simpa using hc
      simp only; omega
  · rw [if_neg hc]
    have h1 : a.tmod b ≠ 0 := fun h => hc (.inl h)
    have h2 : ¬ (a < 0 ↔ b < 0) := fun h => hc (.inr (by simp [h]))
    simp only; omega
theorem WordBack : pascalinelaw01_WordBack.Pure := by
  intro a b ha hb
  have ha' := bounds_i32 ha
  have hb' := bounds_i32 hb
  refine ⟨4, ?_⟩
  unfold pascalinelaw01_WordBack.f
  rw [awake_eq, div_eq a b ha' hb', mod_eq a b ha' hb']
  simp only [Option.bind_some]
  rw [if_pos trivial]
  by_cases h0 : b = 0
  · subst h0; rw [if_pos rfl]; simp [divOf, modOf]
  · rw [if_neg h0]
    obtain ⟨h1, h2⟩ := back_side a b h0
    have hj := back_j0 0 a b ha' h0
    by_cases hp : b > 0
    · rw [if_pos hp, if_neg (by have := h1 hp; omega), if_neg (by have := h1 hp; omega), if_neg (by omega)]
      exact hj
    · rw [if_neg hp, if_pos (by omega), if_neg (by have := h2 (by omega); omega)]
      rw [decide_eq_false (by have := h2 (by omega); omega)]
      exact hj
end Go.Proofs.Ytlfhgednlljkoaa.Pure
