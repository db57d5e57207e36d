-- Written by a program of this session (wip/tools/hp.py) out of the translation.
import Derived.Test.YtmajngcgejkghaaPx0
namespace Go.Proofs.Ytmajngcgejkghaa.P
open Go.RowKit Go.Proofs.YtmajngcgejkghaaW.PrintWords Go.Proofs.YtmajngcgejkghaaW.PrintLast Go.Proofs.YtmajngcgejkghaaW.PrintMore
attribute [local go_sem] max2_int min2_int max_two min_two max_three min_three max_four min_four   -- for this text's walks alone
set_option linter.unusedVariables false
set_option linter.unusedSimpArgs false

/-! ### word_Fits: function 37 -/
def word_Fits.f (n bits : Int) : Option Bool := some (decide (1 ≤ bits) && (decide (-(2 ^ (min bits 40 - 1).toNat) ≤ n) && decide (n < 2 ^ (min bits 40 - 1).toNat)))
theorem word_Fits.pow (k : Nat) (h : k ≤ 39) : 1 ≤ (2 : Int) ^ k ∧ (2 : Int) ^ k ≤ 549755813888 := by
  have h1 : (2 : Nat) ^ k ≤ 2 ^ 39 := Nat.pow_le_pow_right (by omega) h
  have h2 : 1 ≤ (2 : Nat) ^ k := Nat.one_le_two_pow
  have h3 : ((2 : Nat) ^ k : Int) = (2 : Int) ^ k := by norm_cast
  have h4 : (2 : Nat) ^ 39 = 549755813888 := by decide
  omega
theorem word_Fits.pow' (k : Nat) (h : k ≤ 39) : wrap64 (-2 ^ k) = -(2 ^ k) := by
  have := word_Fits.pow k h
  unfold wrap64; omega
theorem word_Fits.pow'' (k : Nat) (h : k ≤ 39) : wrap64 (2 ^ k) = 2 ^ k := by
  have := word_Fits.pow k h
  unfold wrap64; omega
set_option maxHeartbeats 400000 in
set_option maxRecDepth 100000 in
theorem word_Fits.calls (n bits : Int) (r : Bool) (w : World) (h : word_Fits.f n bits = some r) :
    Calls Try.prog 37 #[.int .i64 n, .int .i64 bits] w fun e w' => e = .returned (.bool r) ∧ Drawn0 w w' := by
  injection h with h
  have HR := Aside0.mk h
  clear h
  by_cases hb : bits < 1
  · have hbb : decide (bits < 1) = true := decide_eq_true hb
    go_enter Try.func37, Try.ntmps37
    go_wp2
    go_ret
    exact ⟨by rw [← HR.out, decide_eq_false (show ¬ 1 ≤ bits by omega)]; rfl, Drawn0.refl _⟩
  · have hbb : decide (bits < 1) = false := decide_eq_false hb
    obtain ⟨m, hj, hm⟩ : ∃ m : Nat, (if 40 < bits then 40 else bits) = (m : Int) + 1 ∧ m ≤ 39 := by
      refine ⟨(min bits 40 - 1).toNat, ?_, by omega⟩
      split <;> omega
    have HM : Aside0 ((min bits 40 - 1).toNat = m) := ⟨by split at hj <;> omega⟩
    have h1 := word_Fits.pow' _ hm
    have h2 := word_Fits.pow'' _ hm
    have HB := Aside0.mk (word_Fits.pow _ hm)
    have hb1 : decide (1 ≤ bits) = true := decide_eq_true (by omega)
    by_cases h3 : -(2 ^ m) ≤ n
    · have HD : Aside0 (decide (-(2 ^ m) ≤ n) = true) := ⟨decide_eq_true h3⟩
      go_enter Try.func37, Try.ntmps37
      go_wp2
      go_ret
      exact ⟨by rw [← HR.out, HM.out, HD.out, hb1]; rfl, Drawn0.refl _⟩
    · have HD : Aside0 (decide (-(2 ^ m) ≤ n) = false) := ⟨decide_eq_false h3⟩
      go_enter Try.func37, Try.ntmps37
      go_wp2
      go_ret
      exact ⟨by rw [← HR.out, HM.out, HD.out, hb1]; rfl, Drawn0.refl _⟩

end Go.Proofs.Ytmajngcgejkghaa.P
