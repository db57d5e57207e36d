/- Plain facts on Go's whole numbers: quotients, rests, going round. No program in sight. -/
import Derived.RowKit
import Derived.Laws.BitsAllLaws
import Derived.Laws.BitsLemmas
import Derived.OpenShut
namespace Go.Proofs.Ytmebogkhdbbbbaa.C
open Go Go.RowKit

theorem tmod_pos (a b : Int) (h : 0 ≤ a) : a.tmod b = a % b := Int.tmod_eq_emod_of_nonneg h
theorem tdiv_pos (a b : Int) (h : 0 ≤ a) : a.tdiv b = a / b := Int.tdiv_eq_ediv_of_nonneg h
theorem tmod_neg (a b : Int) (h : a ≤ 0) : a.tmod b = -((-a) % b) := by
  have e : a = -(-a) := by omega
  rw [e, Int.neg_tmod, Int.tmod_eq_emod_of_nonneg (by omega), Int.neg_neg]
theorem tdiv_neg (a b : Int) (h : a ≤ 0) : a.tdiv b = -((-a) / b) := by
  have e : a = -(-a) := by omega
  rw [e, Int.neg_tdiv, Int.tdiv_eq_ediv_of_nonneg (by omega), Int.neg_neg]
theorem wrap32_in {n : Int} (h : -2147483648 ≤ n ∧ n ≤ 2147483647) : wrap32 n = n := by unfold wrap32; omega
theorem wrap64_in {n : Int} (h : -9223372036854775808 ≤ n ∧ n ≤ 9223372036854775807) : wrap64 n = n := by unfold wrap64; omega
theorem wrap32_range (n : Int) : -2147483648 ≤ wrap32 n ∧ wrap32 n ≤ 2147483647 := by unfold wrap32; omega
theorem wrap64_range (n : Int) : -9223372036854775808 ≤ wrap64 n ∧ wrap64 n ≤ 9223372036854775807 := by unfold wrap64; omega
theorem wrap32_64 (n : Int) : wrap32 (wrap64 n) = wrap32 n := by unfold wrap32 wrap64; omega
theorem wraps_u32' (n : Int) (h0 : 0 ≤ n) (h1 : n < 2 ^ 32) : IntKind.u32.wrap n = n := by
  have : (2 : Int) ^ 32 = 4294967296 := by decide
  rw [this] at h1
  simp [IntKind.wrap, IntKind.signed, IntKind.bits]; omega
theorem or_hi (i : Nat) (x y : Int) (hx0 : 0 ≤ x) (hx1 : x % 2 ^ i = 0) (hx2 : x < 4294967296) (hy0 : 0 ≤ y) (hy : y < 2 ^ i) (hy2 : y < 4294967296) : bits .or .u32 x y = x + y :=
  bits_join .u32 32 (by decide) wraps_u32' i x y hx0 hx1 (by have : (2 : Int) ^ 32 = 4294967296 := by decide
                                                             omega) hy0 hy (by have : (2 : Int) ^ 32 = 4294967296 := by decide
                                                                               omega)
theorem or_lo (i : Nat) (x y : Int) (hx0 : 0 ≤ x) (hx1 : x % 2 ^ i = 0) (hx2 : x < 4294967296) (hy0 : 0 ≤ y) (hy : y < 2 ^ i) (hy2 : y < 4294967296) : bits .or .u32 y x = y + x := by
  have hc : bits .or .u32 y x = bits .or .u32 x y := by simp only [bits, BitVec.or_comm]
  rw [hc, or_hi i x y hx0 hx1 hx2 hy0 hy hy2, Int.add_comm]
theorem and_lo (i : Nat) (hi : i ≤ 32) (x : Int) (h0 : 0 ≤ x) (h1 : x < 4294967296) : bits .and .u32 x (2 ^ i - 1) = x % 2 ^ i :=
  bits_mask .u32 32 (by decide) wraps_u32' i hi x h0 (by have : (2 : Int) ^ 32 = 4294967296 := by decide
                                                         omega)
/-- What division leaves, all at once: a = p + r, where p is the divisor times the quotient q. -/
theorem dm (a b : Int) (hb : b ≠ 0) : b * a.tdiv b + a.tmod b = a ∧ (a.tmod b).natAbs < b.natAbs ∧ (0 ≤ a → 0 ≤ a.tmod b) ∧ (a ≤ 0 → a.tmod b ≤ 0) ∧ (a.tdiv b).natAbs ≤ a.natAbs := by
  refine ⟨Int.mul_tdiv_add_tmod a b, ?_, fun h => Int.tmod_nonneg b h, fun h => ?_, Int.natAbs_tdiv_le_natAbs a b⟩
  · rw [Int.natAbs_tmod]; exact Nat.mod_lt _ (by omega)
  · have := Int.tmod_nonneg b (show 0 ≤ -a by omega)
    rw [Int.neg_tmod] at this; omega
theorem q_half (a b : Int) (h1 : 2 ≤ b.natAbs) : 2 * (a.tdiv b).natAbs ≤ a.natAbs := by
  rw [Int.natAbs_tdiv]
  have h2 : a.natAbs.div b.natAbs = a.natAbs / b.natAbs := rfl
  rw [h2]
  have h3 : a.natAbs / b.natAbs ≤ a.natAbs / 2 := Nat.div_le_div_left h1 (by omega)
  omega
/-- Rounded down, going round; by 0: none. -/
def divOf (a b : Int) : Int × Bool := if b = 0 then (0, false) else if a.tmod b = 0 ∨ (decide (a < 0) = decide (b < 0)) then (wrap32 (a.tdiv b), true) else (wrap32 (a.tdiv b - 1), true)
def modOf (a b : Int) : Int × Bool := if b = 0 then (0, false) else if a.tmod b = 0 ∨ (decide (a < 0) = decide (b < 0)) then (a.tmod b, true) else (a.tmod b + b, true)
theorem q_range (a b : Int) (hb : b ≠ 0) (h1 : b ≠ -1) (ha : -2147483648 ≤ a ∧ a ≤ 2147483647) : -2147483648 ≤ a.tdiv b ∧ a.tdiv b ≤ 2147483647 := by
  by_cases e : b = 1
  · subst e; rw [Int.tdiv_one]; exact ha
  · have := q_half a b (by omega); omega
theorem modOf_range (a b : Int) (ha : -2147483648 ≤ a ∧ a ≤ 2147483647) (hb : -2147483648 ≤ b ∧ b ≤ 2147483647) : -2147483648 ≤ (modOf a b).1 ∧ (modOf a b).1 ≤ 2147483647 := by
  unfold modOf
  by_cases e : b = 0
  · rw [if_pos e]; exact ⟨by decide, by decide⟩
  · rw [if_neg e]
    obtain ⟨_, h2, h3, h4, _⟩ := dm a b e
    split
    · simp only; omega
    · rename_i h5
      have : (a < 0) ≠ (b < 0) := fun h => h5 (.inr (by simp [h]))
      simp only
      by_cases h6 : a < 0
      · have h7 : ¬ b < 0 := fun h => this (by simp [h6, h])
        omega
      · have h7 : b < 0 := by
          by_cases h : b < 0
          · exact h
          · exact absurd (by simp [h6, h]) this
        omega
theorem divOf_range (a b : Int) : -2147483648 ≤ (divOf a b).1 ∧ (divOf a b).1 ≤ 2147483647 := by
  unfold divOf
  split
  · exact ⟨by decide, by decide⟩
  · split
    · exact wrap32_range _
    · exact wrap32_range _
end Go.Proofs.Ytmebogkhdbbbbaa.C
