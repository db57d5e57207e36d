/- What the printed functions of word and of its reference answer: powers of 2, and a word's lowest bits. -/
import Derived.Test.YtmajngcgejkghaaPx1
import Derived.Test.YtmajngcgejkghaaPx22
import Derived.Test.YtmajngcgejkghaaCWord
namespace Go.Proofs.Ytmajngcgejkghaa.Q
set_option linter.unusedVariables false
set_option linter.unusedSimpArgs false
open Go Go.RowKit Go.Proofs.Ytmajngcgejkghaa.P Go.Proofs.Ytmajngcgejkghaa.C Go.Proofs.YtmajngcgejkghaaW.PrintWords Go.Proofs.YtmajngcgejkghaaW.PrintLast Go.Proofs.YtmajngcgejkghaaW.PrintMore

theorem sround_eq (n : Int) (h : -9223372036854775808 ≤ n ∧ n ≤ 9223372036854775807) : pascalineref01_Round.f n = some (wrap32 n) := by
  unfold pascalineref01_Round.f
  by_cases h0 : 0 ≤ n
  · rw [tmod_pos _ _ h0]
    rw [if_neg (by omega)]
    split
    · rw [wrap64_in (by omega)]; unfold wrap32; congr 1; omega
    · unfold wrap32; congr 1; omega
  · rw [tmod_neg _ _ (by omega)]
    split
    · rw [wrap64_in (n := -(-n % 4294967296) + 4294967296) (by omega)]
      split
      · rw [wrap64_in (by omega)]; unfold wrap32; congr 1; omega
      · unfold wrap32; congr 1; omega
    · split
      · omega
      · unfold wrap32; congr 1; omega
theorem two_pow (k m : Nat) (h : k ≤ m) : 1 ≤ (2 : Int) ^ k ∧ (2 : Int) ^ k ≤ 2 ^ m := by
  have h1 : (2 : Nat) ^ k ≤ 2 ^ m := Nat.pow_le_pow_right (by omega) h
  have h2 : 1 ≤ (2 : Nat) ^ k := Nat.one_le_two_pow
  have h3 : ((2 : Nat) ^ k : Int) = (2 : Int) ^ k := by norm_cast
  have h4 : ((2 : Nat) ^ m : Int) = (2 : Int) ^ m := by norm_cast
  omega
theorem power_loop (n : Nat) (hn : n ≤ 40) (d : Nat) : ∀ (k j : Nat), n - j = d → j ≤ n → d < k → pascalineref01_Power.l0 k (n : Int) (2 ^ j) (j : Int) = some (2 ^ n) := by
  induction d with
  | zero =>
    intro k j hd hj hk
    obtain ⟨k, rfl⟩ : ∃ m, k = m + 1 := ⟨k - 1, by omega⟩
    simp only [pascalineref01_Power.l0]; rw [if_neg (by omega), show j = n by omega]
  | succ d ih =>
    intro k j hd hj hk
    obtain ⟨k, rfl⟩ : ∃ m, k = m + 1 := ⟨k - 1, by omega⟩
    have hp := two_pow j 40 (by omega)
    have h40 : (2 : Int) ^ 40 = 1099511627776 := by decide
    simp only [pascalineref01_Power.l0]
    rw [if_pos (by omega), wrap64_in (n := 2 ^ j * 2) (by omega), wrap64_in (n := (j : Int) + 1) (by omega), ← Int.pow_succ]
    exact ih k (j + 1) (by omega) (by omega) (by omega)
theorem power_f (n : Nat) (hn : n ≤ 40) (k : Nat) (hk : n < k) : pascalineref01_Power.f k (n : Int) = some (2 ^ n) := by
  have := power_loop n hn n k 0 (by omega) (by omega) hk
  exact this
/-- A word's lowest bits (so many of which a is the half), with a sign. -/
def sext (w half : Int) : Int := if w % (2 * half) ≥ half then w % (2 * half) - 2 * half else w % (2 * half)
theorem ref_sext16 (k : Nat) (w : Int) (hk : 50 < k) (hw : 0 ≤ w ∧ w ≤ 4294967295) : pascalineref01_Sext.f k w 16 = some (sext w 32768) := by
  have hp := power_f 16 (by omega) k (by omega)
  unfold pascalineref01_Sext.f sext
  rw [if_neg (by omega), show mn 16 32 = ((16 : Nat) : Int) from rfl, hp]
  simp only [Option.bind_some]
  rw [show (2 : Int) ^ 16 = 65536 by decide, if_neg (by omega), wrap64_in (n := w) (by omega), tmod_pos _ _ hw.1, show Int.tdiv 65536 2 = 32768 by decide, wrap64_in (n := 32768) (by omega), show (2 : Int) * 32768 = 65536 by decide]
  split
  · rw [wrap64_in (by omega), sround_eq _ (by omega), wrap32_in (by omega)]; rfl
  · rw [sround_eq _ (by omega), wrap32_in (by omega)]; rfl
theorem ref_sext24 (k : Nat) (w : Int) (hk : 50 < k) (hw : 0 ≤ w ∧ w ≤ 4294967295) : pascalineref01_Sext.f k w 24 = some (sext w 8388608) := by
  have hp := power_f 24 (by omega) k (by omega)
  unfold pascalineref01_Sext.f sext
  rw [if_neg (by omega), show mn 24 32 = ((24 : Nat) : Int) from rfl, hp]
  simp only [Option.bind_some]
  rw [show (2 : Int) ^ 24 = 16777216 by decide, if_neg (by omega), wrap64_in (n := w) (by omega), tmod_pos _ _ hw.1, show Int.tdiv 16777216 2 = 8388608 by decide, wrap64_in (n := 8388608) (by omega), show (2 : Int) * 8388608 = 16777216 by decide]
  split
  · rw [wrap64_in (by omega), sround_eq _ (by omega), wrap32_in (by omega)]; rfl
  · rw [sround_eq _ (by omega), wrap32_in (by omega)]; rfl
theorem swrap_u32 (x : Int) : IntKind.u32.wrap x = x % 4294967296 := by
  simp [IntKind.wrap, IntKind.signed, IntKind.bits]
theorem word_sext16 (w : Int) (hw : 0 ≤ w ∧ w ≤ 4294967295) : word_Sext.f w 16 = some (sext w 32768) := by
  unfold word_Sext.f sext shl shr
  rw [if_neg (by omega), show mn 16 32 = 16 from rfl, show wrap64 (32 - 16) = 16 by unfold wrap64; decide, if_pos (by omega), swrap_u32, show min (16 : Int).toNat IntKind.u32.bits = 16 by decide, show min (16 : Int).toNat IntKind.i32.bits = 16 by decide, show (2 : Int) ^ 16 = 65536 by decide]
  congr 1
  unfold wrap32
  split <;> omega
theorem word_sext24 (w : Int) (hw : 0 ≤ w ∧ w ≤ 4294967295) : word_Sext.f w 24 = some (sext w 8388608) := by
  unfold word_Sext.f sext shl shr
  rw [if_neg (by omega), show mn 24 32 = 24 from rfl, show wrap64 (32 - 24) = 8 by unfold wrap64; decide, if_pos (by omega), swrap_u32, show min (8 : Int).toNat IntKind.u32.bits = 8 by decide, show min (8 : Int).toNat IntKind.i32.bits = 8 by decide, show (2 : Int) ^ 8 = 256 by decide]
  congr 1
  unfold wrap32
  split <;> omega
theorem fits16 (n : Int) : word_Fits.f n 16 = some (decide (-32768 ≤ n) && decide (n < 32768)) := rfl
theorem fits24 (n : Int) : word_Fits.f n 24 = some (decide (-8388608 ≤ n) && decide (n < 8388608)) := rfl
theorem within16 (n : Int) : word_Within.f n 16 = some (decide (0 ≤ n) && decide (n < 65536)) := by
  unfold word_Within.f
  rw [if_pos (by omega), show mn 16 40 = 16 from rfl, show wrap64 (2 ^ (16 : Int).toNat) = 65536 by unfold wrap64; decide]
  by_cases h : n ≥ 0
  · rw [if_pos h, if_pos (by omega), decide_eq_true (show 0 ≤ n from h), Bool.true_and]
  · rw [if_neg h, decide_eq_false (show ¬ 0 ≤ n by omega), Bool.false_and]
end Go.Proofs.Ytmajngcgejkghaa.Q
