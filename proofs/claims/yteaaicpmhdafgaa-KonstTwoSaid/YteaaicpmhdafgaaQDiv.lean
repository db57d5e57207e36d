/- What the printed functions of word and of its reference answer: quotients and rests. -/
import Derived.Test.YteaaicpmhdafgaaPx4
import Derived.Test.YteaaicpmhdafgaaPx14
import Derived.Test.YteaaicpmhdafgaaCWord
namespace Go.Proofs.Yteaaicpmhdafgaa.Q
open Go Go.RowKit Go.Proofs.Yteaaicpmhdafgaa.P Go.Proofs.Yteaaicpmhdafgaa.C

theorem round_eq (n : Int) (h : -9223372036854775808 ≤ n ∧ n ≤ 9223372036854775807) : pascalineref01_Round.f n = some (wrap32 n) := by
  unfold pascalineref01_Round.f
  by_cases h0 : 0 ≤ n
  · rw [tmod_pos _ _ h0]
    rw [if_neg (by omega)]
    split
    · rw [wrap64_in (by omega)]; unfold wrap32; congr 1; omega
    · unfold wrap32; congr 1; omega
  · rw [tmod_neg _ _ (by omega)]
    split
    · rw [wrap64_in (n := -(-n % 4294967296) + 4294967296) (by omega)]
      split
      · rw [wrap64_in (by omega)]; unfold wrap32; congr 1; omega
      · unfold wrap32; congr 1; omega
    · split
      · omega
      · unfold wrap32; congr 1; omega
theorem ne_cond (a b : Int) : (((decide (a < 0)) != (decide (b < 0))) = true) ↔ ¬ (decide (a < 0) = decide (b < 0)) := by
  cases decide (a < 0) <;> cases decide (b < 0) <;> simp
theorem div_eq (a b : Int) (ha : -2147483648 ≤ a ∧ a ≤ 2147483647) (hb : -2147483648 ≤ b ∧ b ≤ 2147483647) : word_Div.f a b = some (divOf a b) := by
  unfold word_Div.f divOf
  by_cases h0 : b = 0
  · rw [if_pos h0, if_pos h0]
  · rw [if_neg h0, if_neg h0]
    by_cases h1 : b = -1
    · subst h1
      rw [if_pos rfl, Int.tdiv_neg, Int.tdiv_one, Int.tmod_neg, Int.tmod_one, if_pos (.inl rfl)]
    · rw [if_neg h1]
      have hq := q_range a b h0 h1 ha
      by_cases h2 : a.tmod b = 0
      · rw [if_pos h2, if_pos (.inl h2)]
      · rw [if_neg h2]
        by_cases h3 : decide (a < 0) = decide (b < 0)
        · rw [if_neg (by rw [ne_cond]; exact fun h => h h3), if_pos (.inr h3)]
        · rw [if_pos (by rw [ne_cond]; exact h3), if_neg (by simp only [not_or]; exact ⟨h2, h3⟩), wrap32_in hq]
theorem mod_eq (a b : Int) (ha : -2147483648 ≤ a ∧ a ≤ 2147483647) (hb : -2147483648 ≤ b ∧ b ≤ 2147483647) : word_Mod.f a b = some (modOf a b) := by
  unfold word_Mod.f modOf
  by_cases h0 : b = 0
  · rw [if_pos h0, if_pos h0]
  · rw [if_neg h0, if_neg h0]
    by_cases h1 : b = -1
    · subst h1
      rw [if_pos rfl, Int.tmod_neg, Int.tmod_one, if_pos (.inl rfl)]
    · rw [if_neg h1]
      obtain ⟨_, g2, g3, g4, _⟩ := dm a b h0
      by_cases h2 : a.tmod b = 0
      · rw [if_pos h2, if_pos (.inl h2)]
      · rw [if_neg h2]
        have hs : decide (a.tmod b < 0) = decide (a < 0) := by
          by_cases h : a < 0
          · rw [decide_eq_true h, decide_eq_true (by omega)]
          · rw [decide_eq_false h, decide_eq_false (by omega)]
        rw [hs]
        have hr := modOf_range a b ha hb
        unfold modOf at hr
        rw [if_neg h0] at hr
        by_cases h3 : decide (a < 0) = decide (b < 0)
        · rw [if_neg (by rw [ne_cond]; exact fun h => h h3), if_pos (.inr h3)]
        · rw [if_neg (by simp only [not_or]; exact ⟨h2, h3⟩)] at hr
          rw [if_pos (by rw [ne_cond]; exact h3), if_neg (by simp only [not_or]; exact ⟨h2, h3⟩), wrap32_in hr]
theorem rdiv_eq (a b : Int) (ha : -2147483648 ≤ a ∧ a ≤ 2147483647) (hb : -2147483648 ≤ b ∧ b ≤ 2147483647) : pascalineref01_Div.f a b = some (divOf a b) := by
  unfold pascalineref01_Div.f divOf
  rw [wrap64_in (n := a) (by omega), wrap64_in (n := b) (by omega)]
  by_cases h0 : b = 0
  · rw [if_pos h0, if_pos h0]
  · rw [if_neg h0, if_neg h0, if_neg h0]
    obtain ⟨g1, g2, g3, g4, g5⟩ := dm a b h0
    rw [wrap64_in (n := a.tdiv b) (by omega)]
    have hp : a.tdiv b * b = a - a.tmod b := by rw [Int.mul_comm]; omega
    rw [hp, wrap64_in (n := a - a.tmod b) (by omega)]
    by_cases h2 : a.tmod b = 0
    · rw [if_pos (by omega), if_pos (.inl h2), round_eq _ (by omega)]; rfl
    · rw [if_neg (by omega)]
      by_cases h3 : decide (a < 0) = decide (b < 0)
      · rw [if_neg (by rw [ne_cond]; exact fun h => h h3), if_pos (.inr h3), round_eq _ (by omega)]; rfl
      · rw [if_pos (by rw [ne_cond]; exact h3), if_neg (by simp only [not_or]; exact ⟨h2, h3⟩), wrap64_in (by omega), round_eq _ (by omega)]; rfl
theorem rmod_eq (a b : Int) (ha : -2147483648 ≤ a ∧ a ≤ 2147483647) (hb : -2147483648 ≤ b ∧ b ≤ 2147483647) : pascalineref01_Mod.f a b = some (modOf a b) := by
  unfold pascalineref01_Mod.f
  rw [rdiv_eq a b ha hb]
  simp only [Option.bind_some]
  by_cases h0 : b = 0
  · unfold divOf modOf; rw [if_pos h0, if_pos h0, if_neg (by simp)]
  · obtain ⟨g1, g2, g3, g4, g5⟩ := dm a b h0
    have hq := divOf_range a b
    have hr := modOf_range a b ha hb
    have h2 : (divOf a b).2 = true := by unfold divOf; rw [if_neg h0]; split <;> rfl
    rw [if_pos h2, wrap64_in (n := a) (by omega), wrap64_in (n := b) (by omega), wrap64_in (n := (divOf a b).1) (by omega)]
    have hm : -4611686018427387904 ≤ (divOf a b).1 * b ∧ (divOf a b).1 * b ≤ 4611686018427387904 := by
      have e1 : ((divOf a b).1 * b).natAbs ≤ 2147483648 * 2147483648 := by rw [Int.natAbs_mul]; exact Nat.mul_le_mul (by omega) (by omega)
      omega
    rw [wrap64_in (n := (divOf a b).1 * b) (by omega), wrap64_in (by omega), round_eq _ (by omega)]
    have key : wrap32 (a - (divOf a b).1 * b) = (modOf a b).1 ∧ (modOf a b).2 = true := by
      unfold divOf modOf
      rw [if_neg h0, if_neg h0]
      unfold modOf at hr
      rw [if_neg h0] at hr
      by_cases h1 : b = -1
      · subst h1
        rw [Int.tdiv_neg, Int.tdiv_one, Int.tmod_neg, Int.tmod_one, if_pos (.inl rfl), if_pos (.inl rfl)]
        refine ⟨?_, rfl⟩
        unfold wrap32; omega
      · have hqr := q_range a b h0 h1 ha
        by_cases hc : a.tmod b = 0 ∨ (decide (a < 0) = decide (b < 0))
        · rw [if_pos hc, if_pos hc]
          rw [if_pos hc] at hr
          refine ⟨?_, rfl⟩
          simp only
          rw [wrap32_in hqr, Int.mul_comm, show a - b * a.tdiv b = a.tmod b by omega]
          exact wrap32_in hr
        · rw [if_neg hc, if_neg hc]
          rw [if_neg hc] at hr
          refine ⟨?_, rfl⟩
          simp only
          have hq1 : -2147483648 ≤ a.tdiv b - 1 ∧ a.tdiv b - 1 ≤ 2147483647 := by
            by_cases e : b = 1
            · subst e; rw [Int.tmod_one] at hc; simp at hc
            · have := q_half a b (by omega); omega
          rw [wrap32_in hq1, Int.mul_comm, Int.mul_sub, show a - (b * a.tdiv b - b * 1) = a.tmod b + b by omega]
          exact wrap32_in hr
    simp only [Option.bind_some]
    rw [key.1, show true = (modOf a b).2 from key.2.symm]
end Go.Proofs.Yteaaicpmhdafgaa.Q
