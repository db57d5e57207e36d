/- WordFits: the lowest bits of any word as a number with a sign, and whether any number is one of so many bits with a sign or without, are what the document says. For every w, n and bits; no condition. -/
import Derived.Test.YtlfhgednlljkoaaQDiv
namespace Go.Proofs.Ytlfhgednlljkoaa.Pure
open Go Go.RowKit Go.Proofs.Ytlfhgednlljkoaa.P Go.Proofs.Ytlfhgednlljkoaa.Q Go.Proofs.Ytlfhgednlljkoaa.C Go.Proofs.YtlfhgednlljkoaaW.PrintWords Go.Proofs.YtlfhgednlljkoaaW.PrintLast Go.Proofs.YtlfhgednlljkoaaW.PrintMore

theorem two_pow (k m : Nat) (h : k ≤ m) : 1 ≤ (2 : Int) ^ k ∧ (2 : Int) ^ k ≤ 2 ^ m := by
  have h1 : (2 : Nat) ^ k ≤ 2 ^ m := Nat.pow_le_pow_right (by omega) h
  have h2 : 1 ≤ (2 : Nat) ^ k := Nat.one_le_two_pow
  have h3 : ((2 : Nat) ^ k : Int) = (2 : Int) ^ k := by norm_cast
  have h4 : ((2 : Nat) ^ m : Int) = (2 : Int) ^ m := by norm_cast
  omega
theorem power_loop (n : Nat) (hn : n ≤ 40) (d : Nat) : ∀ (k j : Nat), n - j = d → j ≤ n → d < k → pascalineref01_Power.l0 k (n : Int) (2 ^ j) (j : Int) = some (2 ^ n) := by
  induction d with
  | zero =>
    intro k j hd hj hk
    obtain ⟨k, rfl⟩ : ∃ m, k = m + 1 := ⟨k - 1, by omega⟩
    simp only [pascalineref01_Power.l0]; rw [if_neg (by omega), show j = n by omega]
  | succ d ih =>
    intro k j hd hj hk
    obtain ⟨k, rfl⟩ : ∃ m, k = m + 1 := ⟨k - 1, by omega⟩
    have hp := two_pow j 40 (by omega)
    have h40 : (2 : Int) ^ 40 = 1099511627776 := by decide
    simp only [pascalineref01_Power.l0]
    rw [if_pos (by omega), wrap64_in (n := 2 ^ j * 2) (by omega), wrap64_in (n := (j : Int) + 1) (by omega), ← Int.pow_succ]
    exact ih k (j + 1) (by omega) (by omega) (by omega)
theorem power_f (n : Nat) (hn : n ≤ 40) (k : Nat) (hk : n < k) : pascalineref01_Power.f k (n : Int) = some (2 ^ n) := by
  have := power_loop n hn n k 0 (by omega) (by omega) hk
  exact this
theorem power_neg (n : Int) (hn : n ≤ 0) (k : Nat) : pascalineref01_Power.f (k + 1) n = some 1 := by
  unfold pascalineref01_Power.f
  simp only [pascalineref01_Power.l0]; rw [if_neg (by omega)]
theorem fits_eq (n bits : Int) (k : Nat) (hk : 50 < k) : pascalineref01_Fits.f k n bits = word_Fits.f n bits := by
  unfold pascalineref01_Fits.f word_Fits.f
  by_cases h1 : bits < 1
  · rw [if_pos h1, decide_eq_false (show ¬ 1 ≤ bits by omega)]; rfl
  · rw [if_neg h1, decide_eq_true (show 1 ≤ bits by omega)]
    obtain ⟨m, hm, hm2⟩ : ∃ m : Nat, (mn bits 40) - 1 = (m : Int) ∧ m ≤ 39 := ⟨(min bits 40 - 1).toNat, by unfold mn; split <;> omega, by omega⟩
    have hm3 : (min bits 40 - 1).toNat = m := by unfold mn at hm; split at hm <;> omega
    rw [hm3, hm, wrap64_in (n := (m : Int)) (by omega), power_f m (by omega) k (by omega)]
    simp only [Option.bind_some]
    have hp := two_pow m 39 (by omega)
    have h39 : (2 : Int) ^ 39 = 549755813888 := by decide
    rw [wrap64_in (n := -2 ^ m) (by omega), wrap64_in (n := 2 ^ m - 1) (by omega)]
    by_cases h2 : n ≥ -2 ^ m
    · rw [if_pos h2, decide_eq_true (show -(2 ^ m) ≤ n from h2)]
      simp only [Bool.true_and]
      congr 1
      rw [decide_eq_decide]; omega
    · rw [if_neg h2, decide_eq_false (show ¬ -(2 ^ m) ≤ n from h2)]; rfl
theorem within_eq (n bits : Int) (k : Nat) (hk : 50 < k) : pascalineref01_Within.f k n bits = word_Within.f n bits := by
  unfold pascalineref01_Within.f word_Within.f
  by_cases h1 : bits ≥ 0
  · rw [if_pos h1, if_pos h1]
    by_cases h2 : n ≥ 0
    · rw [if_pos h2, if_pos h2]
      obtain ⟨m, hm, hm2⟩ : ∃ m : Nat, mn bits 40 = (m : Int) ∧ m ≤ 40 := ⟨(min bits 40).toNat, by unfold mn; split <;> omega, by omega⟩
      rw [hm, if_pos (by omega), power_f m (by omega) k (by omega)]
      simp only [Option.bind_some]
      have hp := two_pow m 40 (by omega)
      have h40 : (2 : Int) ^ 40 = 1099511627776 := by decide
      rw [Int.toNat_natCast, wrap64_in (n := 2 ^ m) (by omega), wrap64_in (n := 2 ^ m - 1) (by omega)]
      congr 1
      rw [decide_eq_decide]; omega
    · rw [if_neg h2, if_neg h2]
  · rw [if_neg h1, if_neg h1]
theorem wrap_u32 (x : Int) : IntKind.u32.wrap x = x % 4294967296 := by
  simp [IntKind.wrap, IntKind.signed, IntKind.bits]
theorem sext_eq (w bits : Int) (k : Nat) (hk : 50 < k) (hw : 0 ≤ w ∧ w ≤ 4294967295) : pascalineref01_Sext.f k w bits = word_Sext.f w bits := by
  unfold pascalineref01_Sext.f word_Sext.f
  by_cases h1 : bits < 1
  · rw [if_pos h1, if_pos h1]
  · rw [if_neg h1, if_neg h1]
    obtain ⟨m, hm, hm1, hm2⟩ : ∃ m : Nat, mn bits 32 = (m : Int) ∧ 1 ≤ m ∧ m ≤ 32 := ⟨(min bits 32).toNat, by unfold mn; split <;> omega, by omega, by omega⟩
    rw [hm, power_f m (by omega) k (by omega)]
    simp only [Option.bind_some]
    obtain ⟨c, hc⟩ : ∃ c : Nat, m = c + 1 := ⟨m - 1, by omega⟩
    obtain ⟨e, he⟩ : ∃ e : Nat, e + m = 32 := ⟨32 - m, by omega⟩
    have hp := two_pow c 31 (by omega)
    have h31 : (2 : Int) ^ 31 = 2147483648 := by decide
    have hP : (2 : Int) ^ m = 2 * 2 ^ c := by rw [hc, Int.pow_succ]; omega
    have hE := two_pow e 31 (by omega)
    have hEP : (2 : Int) ^ e * 2 ^ m = 4294967296 := by rw [← Int.pow_add, he]; decide
    rw [wrap64_in (n := w) (by omega), tmod_pos _ _ hw.1, tdiv_pos _ _ (by omega), if_neg (by omega)]
    have hh : (2 : Int) ^ m / 2 = 2 ^ c := by omega
    have hr0 : 0 ≤ w % 2 ^ m := Int.emod_nonneg _ (by omega)
    have hr1 : w % 2 ^ m < 2 ^ m := Int.emod_lt_of_pos _ (by omega)
    rw [hh, wrap64_in (n := 2 ^ c) (by omega), wrap64_in (n := 32 - (m : Int)) (by omega), show (32 : Int) - (m : Int) = (e : Int) by omega, if_pos (show (0 : Int) ≤ (e : Int) by omega)]
    have hshl : shl .u32 w (e : Int) = (w % 2 ^ m) * 2 ^ e := by
      unfold shl
      rw [wrap_u32, Int.toNat_natCast, Nat.min_eq_left (show e ≤ IntKind.u32.bits by simp [IntKind.bits]; omega)]
      have := Int.mul_emod_mul_of_pos (a := 2 ^ e) w (2 ^ m) (by omega)
      rw [Int.mul_comm (2 ^ e) w, hEP, Int.mul_comm (2 ^ e) (w % 2 ^ m)] at this
      exact this
    rw [hshl]
    have hshr : ∀ y : Int, shr .i32 (y * 2 ^ e) (e : Int) = y := fun y => by
      unfold shr
      rw [Int.toNat_natCast, Nat.min_eq_left (show e ≤ IntKind.i32.bits by simp [IntKind.bits]; omega)]
      exact Int.mul_ediv_cancel _ (by omega)
    have hEc : (2 : Int) ^ e * 2 ^ c = 2147483648 := by
      have : (2 : Int) ^ e * (2 * 2 ^ c) = 4294967296 := by rw [← hP]; exact hEP
      have e2 : (2 : Int) ^ e * (2 * 2 ^ c) = 2 * (2 ^ e * 2 ^ c) := by rw [← Int.mul_assoc, Int.mul_comm (2 ^ e) 2, Int.mul_assoc]
      omega
    have lin : ∀ y : Int, y * 2 ^ e - 2 ^ m * 2 ^ e = (y - 2 ^ m) * 2 ^ e := fun y => by rw [Int.sub_mul]
    have hPE : (2 : Int) ^ m * 2 ^ e = 4294967296 := by rw [Int.mul_comm]; exact hEP
    by_cases h2 : w % 2 ^ m ≥ 2 ^ c
    · rw [if_pos h2, wrap64_in (n := w % 2 ^ m - 2 ^ m) (by omega), round_eq _ (by omega)]
      simp only [Option.bind_some]
      have g1 : 2147483648 ≤ (w % 2 ^ m) * 2 ^ e := by
        have := Int.mul_le_mul_of_nonneg_right h2 (show (0 : Int) ≤ 2 ^ e by omega)
        rw [Int.mul_comm (2 ^ c)] at this; omega
      have g2 : (w % 2 ^ m) * 2 ^ e < 4294967296 := by
        have := Int.mul_lt_mul_of_pos_right hr1 (show (0 : Int) < 2 ^ e by omega)
        omega
      have g3 : wrap32 (w % 2 ^ m * 2 ^ e) = (w % 2 ^ m - 2 ^ m) * 2 ^ e := by
        rw [← lin]; unfold wrap32; omega
      rw [g3, hshr, wrap32_in (by omega)]
    · rw [if_neg h2, round_eq _ (by omega)]
      simp only [Option.bind_some]
      have g1 : (w % 2 ^ m) * 2 ^ e < 2147483648 := by
        have := Int.mul_lt_mul_of_pos_right (show w % 2 ^ m < 2 ^ c by omega) (show (0 : Int) < 2 ^ e by omega)
        rw [Int.mul_comm (2 ^ c)] at this; omega
      have g0 : 0 ≤ (w % 2 ^ m) * 2 ^ e := Int.mul_nonneg hr0 (by omega)
      rw [wrap32_in (n := w % 2 ^ m * 2 ^ e) (by omega), hshr, wrap32_in (by omega)]
theorem sext_some (w bits : Int) : ∃ r, word_Sext.f w bits = some r := by
  unfold word_Sext.f
  by_cases h1 : bits < 1
  · rw [if_pos h1]; exact ⟨_, rfl⟩
  · rw [if_neg h1, if_pos (by unfold mn; split <;> (rw [wrap64_in (by omega)]; omega))]; exact ⟨_, rfl⟩
theorem within_some (n bits : Int) : ∃ r, word_Within.f n bits = some r := by
  unfold word_Within.f
  by_cases h1 : bits ≥ 0
  · rw [if_pos h1]
    by_cases h2 : n ≥ 0
    · rw [if_pos h2, if_pos (by unfold mn; split <;> omega)]; exact ⟨_, rfl⟩
    · rw [if_neg h2]; exact ⟨_, rfl⟩
  · rw [if_neg h1]; exact ⟨_, rfl⟩
theorem WordFits : pascalinelaw01_WordFits.Pure := by
  intro w n bits hw _ _
  refine ⟨60, ?_⟩
  unfold pascalinelaw01_WordFits.f
  obtain ⟨r, hr⟩ := sext_some w bits
  obtain ⟨q, hq⟩ := within_some n bits
  rw [awake_eq, sext_eq w bits 60 (by omega) (bounds_u32 hw), fits_eq n bits 60 (by omega), within_eq n bits 60 (by omega), hr, hq]
  simp [word_Fits.f]
end Go.Proofs.Ytlfhgednlljkoaa.Pure
