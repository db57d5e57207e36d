/- Sums and products of two numbers. -/
import Derived.Test.YteaaicpmhdafgaaPx3
import Derived.Test.YteaaicpmhdafgaaCWord
namespace Go.Proofs.Yteaaicpmhdafgaa.Q
open Go Go.RowKit Go.Proofs.Yteaaicpmhdafgaa.P Go.Proofs.Yteaaicpmhdafgaa.C Go.Proofs.YteaaicpmhdafgaaW.PrintWords
theorem sum_two (k : Nat) (x y : Int) : word_Sum.f (k + 3) [x, y] = some (wrap32 (wrap32 (0 + x) + y)) := by
  unfold word_Sum.f
  simp [word_Sum.l0, rd, wrap64]
theorem times_two (k : Nat) (x y : Int) : word_Times.f (k + 3) [x, y] = some (wrap32 (wrap32 (1 * x) * y)) := by
  unfold word_Times.f
  simp [word_Times.l0, rd, wrap64]
theorem wrap32_mul (x y : Int) : wrap32 (wrap32 x * y) = wrap32 (x * y) := by
  have e : ∃ c, wrap32 x = x + c * 4294967296 := ⟨-((x + 2147483648) / 4294967296), by unfold wrap32; omega⟩
  obtain ⟨c, hc⟩ := e
  rw [hc, Int.add_mul, Int.mul_assoc, Int.mul_comm 4294967296 y, ← Int.mul_assoc]
  unfold wrap32
  omega
theorem wrap32_add (x y : Int) : wrap32 (wrap32 x + y) = wrap32 (x + y) := by unfold wrap32; omega
theorem sum2 (k : Nat) (x y : Int) : word_Sum.f (k + 3) [x, y] = some (wrap32 (x + y)) := by
  rw [sum_two, wrap32_add, Int.zero_add]
theorem times2 (k : Nat) (x y : Int) : word_Times.f (k + 3) [x, y] = some (wrap32 (x * y)) := by
  rw [times_two, wrap32_mul, Int.one_mul]
end Go.Proofs.Yteaaicpmhdafgaa.Q
